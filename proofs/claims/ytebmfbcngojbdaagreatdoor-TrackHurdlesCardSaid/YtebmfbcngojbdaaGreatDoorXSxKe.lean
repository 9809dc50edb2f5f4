/- Part Ke of the own logic: equality of rows of cells; which data may be keys. Part I of the own logic: maps and ranges over strings. -/
import Derived.Test.YtebmfbcngojbdaaGreatDoorXSxH
import Derived.Orders
import Derived.IntWalk
import Derived.Maps.RangeRun
set_option linter.unusedVariables false
set_option linter.unusedSimpArgs false
namespace Go.Sx
open Go
theorem V0{P:Program}{t:TypeId}{i:TI}(h:Z3 P t i)(w:World):(isAgg t).run P w=.ok i.desc.isRow w:=by unfold isAgg;rw[Sem.run_bind,run_underlying h.und w];generalize i.desc=d;cases d<;>simp[TypeDesc.isRow]
def SV.cells?:SV→Option (List SV)
 |.agg l=>some l
 |.pv (.lit (.agg a))=>some (a.toList.map .lit)
 |_=>none
theorem Uk{M:Qc}{ρ:Env}{v:Value}{x:SV}{l:List SV}(h:x.cells? =some l)(hr:Qd M ρ v x):
  ∃cs,v=.agg cs∧cs.size=l.length∧∀(i:Nat) (v:Value) (x:SV),cs[i]? =some v→l[i]? =some x→Qd M ρ v x:=by
 unfold SV.cells? at h;split at h
 ·cases h;cases hr with
  |agg cs _ hl hr=>exact⟨cs,rfl,hl,hr⟩
 ·rename_i a;cases h;have:=hr.Q0;subst this;refine⟨a,rfl,by simp,fun i v x hv hx=>?_⟩;simp only[List.getElem?_map,Option.map_eq_some_iff]at hx;obtain⟨z,hz,rfl⟩:=hx;rw[Array.getElem?_toList,hv]at hz;cases hz;exact .pv (.lit _)
 ·cases h
def partOf(tab:Qo)(t:Nat)(l:List SV)(off:Nat):Option SV:=match tab.lookup t with
 |none=>none
 |some i=>match i.desc.isRow with
  |true=>match Nat.ble (off+i.size) l.length with
   |true=>some (.Z0 ((l.drop off).take i.size))
   |false=>none
  |false=>l[off]?
theorem Qel{P:Program}{tab:Qo}(htab:Qf P tab){M:Qc}{ρ:Env}(w:World){t off:Nat}{cs:Array Value}{l:List SV}{x:SV}(hl:cs.size=l.length)
  (hr:∀(i:Nat) (v:Value) (x:SV),cs[i]? =some v→l[i]? =some x→Qd M ρ v x) (h:partOf tab t l off=some x):∃v,(part t cs off).run P w=.ok v w∧Qd M ρ v x:=by
 unfold partOf at h;split at h
 ·cases h
 ·rename_i i hi;have ht:=htab.get hi;obtain⟨inf,hinf,i1,_⟩:=ht.inf;split at h
  ·rename_i hd;split at h
   ·rename_i hle;have hle:=Nat.le_of_ble_eq_true hle;cases h;refine⟨.agg (cs.extract off (off+i.size)),by simp[part,V0 ht,hd,sizeOf,typeInfo,hinf,i1],?_⟩;have:=Qd.Z0 (M:=M) (ρ:=ρ) (cs:=(cs.extract off (off+i.size)).toList) (l:=(l.drop off).take i.size) (by simp;omega) (fun k v x hv hx=>by
     rw[List.getElem?_take]at hx;split at hx
     ·rename_i hk;rw[List.getElem?_drop]at hx;rw[Array.getElem?_toList,Array.getElem?_extract]at hv;split at hv
      ·exact hr _ v x hv hx
      ·cases hv
     ·cases hx)
    rwa[Array.toArray_toList]at this
   ·cases h
  ·rename_i hd;have hlt:off<cs.size:=by have:=(List.getElem?_eq_some_iff.1 h).1;omega
   exact⟨cs[off],by simp[part,V0 ht,hd,hlt],hr off _ _ (by simp[hlt]) h⟩
def Vu(d:TypeDesc)(x y:SV):Option Bool:=match d,x,y with
 |.bool,.pv (.lit (.bool a)),.pv (.lit (.bool b))=>some (a==b)
 |.int _,.pv (.lit (.int k a)),.pv (.lit (.int k' b))=>match decide (k=k')with
  |true=>some (decide (a=b))
  |false=>none
 |.string,.pv (.lit (.string a)),.pv (.lit (.string b))=>some (a==b)
 |_,_,_=>none
def Wd(eq:Nat→SV→SV→Option Bool)(tab:Qo)(xs ys:List SV):List Field→Option Bool
 |[]=>some true
 |f::fs=>match decide (f.name= "_")with
  |true=>Wd eq tab xs ys fs
  |false=>match partOf tab f.type xs f.offset with
   |none=>none
   |some a=>match partOf tab f.type ys f.offset with
    |none=>none
    |some b=>match eq f.type a b with
     |none=>none
     |some r=>match Wd eq tab xs ys fs with
      |none=>none
      |some r'=>some (r&&r')
def Ww(eq:Nat→SV→SV→Option Bool)(tab:Qo)(xs ys:List SV)(e sz:Nat):Nat→Nat→Option Bool
 |_,0=>some true
 |i,k+1=>match partOf tab e xs (i*sz)with
  |none=>none
  |some a=>match partOf tab e ys (i*sz)with
   |none=>none
   |some b=>match eq e a b with
    |none=>none
    |some r=>match Ww eq tab xs ys e sz (i+1) k with
     |none=>none
     |some r'=>some (r&&r')
def eqV(P:Program)(tab:Qo):Nat→Nat→SV→SV→Option Bool
 |0,_,_,_=>none
 |n+1,t,x,y=>match tab.lookup t with
  |none=>none
  |some i=>match i.desc with
   |.struct fields=>match P.stoodInHeld t with
    |true=>none
    |false=>match x.cells? with
     |none=>none
     |some xs=>match y.cells? with
      |none=>none
      |some ys=>Wd (eqV P tab n) tab xs ys fields.toList
   |.array len e=>match tab.lookup e with
    |none=>none
    |some ie=>match x.cells? with
     |none=>none
     |some xs=>match y.cells? with
      |none=>none
      |some ys=>Ww (eqV P tab n) tab xs ys e ie.size 0 len
   |d=>Vu d x y
theorem Qir{P:Program}{tab:Qo}(htab:Qf P tab){M:Qc}{ρ:Env}(w:World){eq:Nat→SV→SV→Option Bool}{E:Nat→Value→Value→Sem Bool}
  (hE:∀t x y vx vy b,eq t x y=some b→Qd M ρ vx x→Qd M ρ vy y→(E t vx vy).run P w=.ok b w)
  {cx cy:Array Value} {xs ys:List SV} (lx:cx.size=xs.length) (ly:cy.size=ys.length)
  (rx:∀(i:Nat) (v:Value) (x:SV),cx[i]? =some v→xs[i]? =some x→Qd M ρ v x) (ry:∀(i:Nat) (v:Value) (x:SV),cy[i]? =some v→ys[i]? =some x→Qd M ρ v x):
  ∀(fl:List Field) (b:Bool),Wd eq tab xs ys fl=some b→
  Sem.run P (forIn fl ((none,()):Option Bool×Unit) fun f __s=>
      if f.name= "_" then pure (ForInStep.yield (none,()))
      else do
       let a ←part f.type cx f.offset;let c ←part f.type cy f.offset;let r ←E f.type a c
       if r=false then pure (ForInStep.done (some false,()))else pure (ForInStep.yield (none,()))) w=.ok (if b then(none,())else(some false,())) w
 |[],b,h=>by simp[Wd]at h;subst h;simp
 |f::fs,b,h=>by
  rw[List.forIn_cons];simp only[Wd]at h;split at h
  ·rename_i hn;have hn:=of_decide_eq_true hn;simp only[hn,if_true,Sem.run_bind,Sem.run_pure,Result.andThen_ok];exact Qir htab w hE lx ly rx ry fs b h
  ·rename_i hn;have hn:=of_decide_eq_false hn;split at h
   ·cases h
   ·rename_i a ha;split at h
    ·cases h
    ·rename_i c hc;split at h
     ·cases h
     ·rename_i r hr;split at h
      ·cases h
      ·rename_i r' hr';cases h;obtain⟨va,p1,p2⟩:=Qel htab w lx rx ha;obtain⟨vc,p3,p4⟩:=Qel htab w ly ry hc;have p5:=hE _ _ _ _ _ _ hr p2 p4;have ih:=Qir htab w hE lx ly rx ry fs r' hr';simp only[hn,if_false,Sem.run_bind,p1,p3,p5,Result.andThen_ok];cases r with
       |false=>simp
       |true=>simp only[Bool.true_eq_false,if_false,Sem.run_pure,Result.andThen_ok,Bool.true_and];exact ih
theorem Qqs{P:Program}{tab:Qo}(htab:Qf P tab){M:Qc}{ρ:Env}(w:World){eq:Nat→SV→SV→Option Bool}{E:Nat→Value→Value→Sem Bool}
  (hE:∀t x y vx vy b,eq t x y=some b→Qd M ρ vx x→Qd M ρ vy y→(E t vx vy).run P w=.ok b w)
  {cx cy:Array Value} {xs ys:List SV} (lx:cx.size=xs.length) (ly:cy.size=ys.length)
  (rx:∀(i:Nat) (v:Value) (x:SV),cx[i]? =some v→xs[i]? =some x→Qd M ρ v x) (ry:∀(i:Nat) (v:Value) (x:SV),cy[i]? =some v→ys[i]? =some x→Qd M ρ v x) {e sz:Nat}:
  ∀(k i:Nat) (b:Bool),Ww eq tab xs ys e sz i k=some b→
  Sem.run P (forIn (List.range' i k) ((none,()):Option Bool×Unit) fun i __s=>do
       let a ←part e cx (i*sz);let c ←part e cy (i*sz);let r ←E e a c
       if r=false then pure (ForInStep.done (some false,()))else pure (ForInStep.yield (none,()))) w=.ok (if b then(none,())else(some false,())) w
 |0,i,b,h=>by simp[Ww]at h;subst h;simp
 |k+1,i,b,h=>by
  rw[List.range'_succ,List.forIn_cons];simp only[Ww]at h;split at h
  ·cases h
  ·rename_i a ha;split at h
   ·cases h
   ·rename_i c hc;split at h
    ·cases h
    ·rename_i r hr;split at h
     ·cases h
     ·rename_i r' hr';cases h;obtain⟨va,p1,p2⟩:=Qel htab w lx rx ha;obtain⟨vc,p3,p4⟩:=Qel htab w ly ry hc;have p5:=hE _ _ _ _ _ _ hr p2 p4;have ih:=Qqs htab w hE lx ly rx ry k (i+1) r' hr';simp only[Sem.run_bind,p1,p3,p5,Result.andThen_ok];cases r with
      |false=>simp
      |true=>simp only[Bool.true_eq_false,if_false,Sem.run_pure,Result.andThen_ok,Bool.true_and];exact ih
theorem Qer{P:Program}{tab:Qo}(htab:Qf P tab){M:Qc}{ρ:Env}(w:World):∀(n:Nat) (t:Nat) (x y:SV) (vx vy:Value) (b:Bool),eqV P tab n t x y=some b→Qd M ρ vx x→Qd M ρ vy y→
  ∀d,n≤d→(Op.equalIn d t vx vy).run P w=.ok b w
 |0,t,x,y,vx,vy,b,h,hx,hy=>by simp[eqV]at h
 |n+1,t,x,y,vx,vy,b,h,hx,hy=>by
  intro d hd;obtain⟨d,rfl⟩:∃e,d=e+1:=⟨d-1,by omega⟩;unfold eqV at h;split at h
  ·cases h
  ·rename_i i hi;have ht:=htab.get hi;split at h
   ·rename_i fields hdesc;split at h
    ·cases h
    ·rename_i hst;split at h
     ·cases h
     ·rename_i xs hxs;split at h
      ·cases h
      ·rename_i ys hys;obtain⟨cx,rfl,lx,rx⟩:=Uk hxs hx;obtain⟨cy,rfl,ly,ry⟩:=Uk hys hy;have hu:P.underlying t=some (.struct fields):=by rw[ht.und,hdesc]
       unfold Op.equalIn;simp only[Sem.run_bind,run_underlying hu,Result.andThen_ok];simp[hst];rw[←Array.forIn_toList];generalize fields.toList=fl at h;rw[Qir htab w (fun t x y vx vy b h hx hy=>Qer htab w n t x y vx vy b h hx hy d (by omega)) lx ly rx ry fl b h];cases b<;>simp
   ·rename_i len e hdesc;split at h
    ·cases h
    ·rename_i ie hie;split at h
     ·cases h
     ·rename_i xs hxs;split at h
      ·cases h
      ·rename_i ys hys;obtain⟨cx,rfl,lx,rx⟩:=Uk hxs hx;obtain⟨cy,rfl,ly,ry⟩:=Uk hys hy;have hu:P.underlying t=some (.array len e):=by rw[ht.und,hdesc]
       obtain⟨inf,hinf,i1,_⟩:=(htab.get hie).inf;have hsz:(Go.sizeOf e).run P w=.ok ie.size w:=by simp[Go.sizeOf,typeInfo,hinf,i1]
       unfold Op.equalIn;simp only[Sem.run_bind,run_underlying hu,Result.andThen_ok,hsz];simp;rw[Qqs htab w (fun t x y vx vy b h hx hy=>Qer htab w n t x y vx vy b h hx hy d (by omega)) lx ly rx ry len 0 b h];cases b<;>simp
   ·rename_i hns;unfold Vu at h;split at h
    ·rename_i hdesc;cases h;have ex:=hx.Q0;have ey:=hy.Q0;subst ex;subst ey;have hu:=ht.und;rw[hdesc]at hu;unfold Op.equalIn;simp[Sem.run_bind,run_underlying hu]
    ·rename_i hdesc;split at h
     ·rename_i hk;cases of_decide_eq_true hk;cases h;have ex:=hx.Q0;have ey:=hy.Q0;subst ex;subst ey;have hu:=ht.und;rw[hdesc]at hu;unfold Op.equalIn;simp[Sem.run_bind,run_underlying hu];rfl
     ·cases h
    ·rename_i hdesc;cases h;have ex:=hx.Q0;have ey:=hy.Q0;subst ex;subst ey;have hu:=ht.und;rw[hdesc]at hu;unfold Op.equalIn;simp[Sem.run_bind,run_underlying hu]
    ·cases h
def Z4:TypeDesc→Qi→Bool
 |.int k,.val (.int k')=>decide (k=k')
 |.string,.val .str=>true
 |.bool,.val .bool=>true
 |_,_=>false
theorem Qpa{d:TypeDesc}{a:Qi}(h:Z4 d a=true):a.scalar=true:=by unfold Z4 at h;split at h<;>first|rfl|cases h
def Yt(tab:Qo):List Field→List Ty→Nat→Bool
 |[],[],_=>true
 |f::fs,t::ts,i=>match decide (f.name= "_")with
  |true=>false
  |false=>match Nat.beq f.offset i with
   |false=>false
   |true=>match tab.lookup f.type with
    |none=>false
    |some d=>Z4 d.desc (.val t)&&Yt tab fs ts (i+1)
 |_,_,_=>false
def Xu(d:TypeDesc):List Ty→Bool
 |[]=>true
 |t::ts=>Z4 d (.val t)&&Xu d ts
def X8(P:Program)(tab:Qo)(kt:Nat)(d:TypeDesc):Qi→Bool
 |.agg row=>match d with
  |.struct fs=>match P.stoodInHeld kt with
   |true=>false
   |false=>Yt tab fs.toList row 0
  |.array len e=>match tab.lookup e with
   |none=>false
   |some ie=>Nat.beq row.length len&&(Nat.beq ie.size 1&&Xu ie.desc row)
  |_=>false
 |_=>false
def Wv(P:Program)(tab:Qo)(kt:Nat)(d:TypeDesc)(a:Qi):Bool:=match Z4 d a with
 |true=>true
 |false=>X8 P tab kt d a
theorem Kz{d:TypeDesc}{t:Ty}(h:Z4 d (.val t)=true):d.isRow=false∧t.scalar=true:=by refine⟨?_,Qpa (a:=.val t) h⟩;unfold Z4 at h;split at h<;>first|rfl|cases h
theorem Zdy{d:TypeDesc}:∀{t:Ty} (h:Z4 d (.val t)=true) (x y:t.El),Vu d (.pv (t.pv x)) (.pv (t.pv y))=some (t.eqv x y)
 |.int b,h,x,y=>by
  cases d<;>first|(simp only[Z4,Bool.false_eq_true]at h;done)|skip
  rename_i a;have e:a=b:=by simpa[Z4]using h
  subst e;have key:∀x y:Int,Vu (.int a) (.pv (.lit (.int a x))) (.pv (.lit (.int a y)))=some (Qbr x y):=fun x y=>by simp[Vu,Qbr]
  exact key x y
 |.str,h,x,y=>by
  cases d<;>first|(simp only[Z4,Bool.false_eq_true]at h;done)|skip
  have key:∀x y:ByteArray,Vu .string (.pv (.lit (.string x))) (.pv (.lit (.string y)))=some (Yz x y):=fun x y=>by simp only[Vu,Qb8]
  exact key x y
 |.bool,h,x,y=>by
  cases d<;>first|(simp only[Z4,Bool.false_eq_true]at h;done)|skip
  have key:∀x y:Bool,Vu .bool (.pv (.lit (.bool x))) (.pv (.lit (.bool y)))=some (Ud x y):=by decide
  exact key x y
 |.seq _,h,x,y=>by cases d<;>simp only[Z4,Bool.false_eq_true]at h
theorem Qef{P:Program}{tab:Qo}{n ft:Nat}{i:TI}(hi:tab.lookup ft=some i){t:Ty}(h:Z4 i.desc (.val t)=true)(x y:t.El):eqV P tab (n+1) ft (.pv (t.pv x)) (.pv (t.pv y))=some (t.eqv x y):=by
 have e:=Zdy h x y;unfold eqV;rw[hi];simp only;split
 ·rename_i hd;rw[hd]at h;exact absurd h (by cases t<;>simp[Z4])
 ·rename_i hd;rw[hd]at h;exact absurd h (by cases t<;>simp[Z4])
 ·exact e
theorem Vj{tab:Qo}{ft off:Nat}{i:TI}(hi:tab.lookup ft=some i){t:Ty}(h:Z4 i.desc (.val t)=true){xs:List SV}{q:SV}(hq:xs[off]? =some q):partOf tab ft xs off=some q:=by unfold partOf;rw[hi];simp only[(Kz h).1,hq]
theorem Qpt{P:Program}{tab:Qo}{n:Nat}{xs ys:List SV}:∀(fs:List Field) (ts:List Ty) (i:Nat) (x y:Els ts),Yt tab fs ts i=true→
  (∀j q,(Q1 ts x)[j]? =some q→xs[i+j]? =some (.pv q))→(∀j q,(Q1 ts y)[j]? =some q→ys[i+j]? =some (.pv q))→
  Wd (eqV P tab (n+1)) tab xs ys fs=some (Els.eqv ts x y)
 |[],[],i,x,y,h,hx,hy=>rfl
 |[],_::_,i,x,y,h,hx,hy=>by simp[Yt]at h
 |_::_,[],i,x,y,h,hx,hy=>by simp[Yt]at h
 |f::fs,[t],i,x,y,h,hx,hy=>by
  simp only[Yt]at h;split at h
  ·cases h
  ·rename_i hn;split at h
   ·cases h
   ·rename_i ho;have ho:=Nat.eq_of_beq_eq_true ho;split at h
    ·cases h
    ·rename_i d hd;rw[Bool.and_eq_true]at h;have h1:=Vj hd h.1 (hx 0 (t.pv x) rfl);have h2:=Vj hd h.1 (hy 0 (t.pv y) rfl);have h3:=Qef (P:=P) (n:=n) hd h.1 x y;have h4:Wd (eqV P tab (n+1)) tab xs ys fs=some true:=by
      cases fs with
      |nil=>rfl
      |cons _ _=>simp[Yt]at h
     simp only[Wd,hn,ho,Nat.add_zero]at h1 h2⊢;simp only[h1,h2,h3,h4,Bool.and_true];rfl
 |f::fs,t::t'::ts,i,x,y,h,hx,hy=>by
  simp only[Yt]at h;split at h
  ·cases h
  ·rename_i hn;split at h
   ·cases h
   ·rename_i ho;have ho:=Nat.eq_of_beq_eq_true ho;split at h
    ·cases h
    ·rename_i d hd;rw[Bool.and_eq_true]at h;have h1:=Vj hd h.1 (hx 0 (t.pv x.1) rfl);have h2:=Vj hd h.1 (hy 0 (t.pv y.1) rfl);have h3:=Qef (P:=P) (n:=n) hd h.1 x.1 y.1;have h4:=Qpt (P:=P) (n:=n) fs (t'::ts) (i+1) x.2 y.2 h.2 (fun j q hq=>by rw[Nat.add_assoc,Nat.add_comm 1 j];exact hx (j+1) q hq) (fun j q hq=>by rw[Nat.add_assoc,Nat.add_comm 1 j];exact hy (j+1) q hq);simp only[Wd,hn,ho,Nat.add_zero]at h1 h2⊢;simp only[h1,h2,h3,h4];show some (t.eqv x.1 y.1&&Els.eqv (t'::ts) x.2 y.2)=some (Xq t.eqv (Els.eqv (t'::ts)) x y);unfold Xq;cases t.eqv x.1 y.1<;>rfl
theorem Qtk{P:Program}{tab:Qo}{n e:Nat}{ie:TI}(he:tab.lookup e=some ie){xs ys:List SV}:∀(ts:List Ty) (i:Nat) (x y:Els ts),Xu ie.desc ts=true→
  (∀j q,(Q1 ts x)[j]? =some q→xs[i+j]? =some (.pv q))→(∀j q,(Q1 ts y)[j]? =some q→ys[i+j]? =some (.pv q))→
  Ww (eqV P tab (n+1)) tab xs ys e 1 i ts.length=some (Els.eqv ts x y)
 |[],i,x,y,h,hx,hy=>rfl
 |[t],i,x,y,h,hx,hy=>by simp only[Xu,Bool.and_eq_true]at h;have h1:=Vj he h.1 (hx 0 (t.pv x) rfl);have h2:=Vj he h.1 (hy 0 (t.pv y) rfl);have h3:=Qef (P:=P) (n:=n) he h.1 x y;simp only[Nat.add_zero]at h1 h2;simp only[List.length_cons,List.length_nil,Ww,Nat.mul_one,h1,h2,h3,Bool.and_true];rfl
 |t::t'::ts,i,x,y,h,hx,hy=>by simp only[Xu,Bool.and_eq_true]at h;have h1:=Vj he h.1 (hx 0 (t.pv x.1) rfl);have h2:=Vj he h.1 (hy 0 (t.pv y.1) rfl);have h3:=Qef (P:=P) (n:=n) he h.1 x.1 y.1;have h4:=Qtk (P:=P) (n:=n) he (t'::ts) (i+1) x.2 y.2 (by simp only[Xu,Bool.and_eq_true];exact h.2) (fun j q hq=>by rw[Nat.add_assoc,Nat.add_comm 1 j];exact hx (j+1) q hq) (fun j q hq=>by rw[Nat.add_assoc,Nat.add_comm 1 j];exact hy (j+1) q hq);simp only[Nat.add_zero]at h1 h2;show Ww (eqV P tab (n+1)) tab xs ys e 1 i ((t'::ts).length+1)=_;simp only[Ww,Nat.mul_one,h1,h2,h3,h4];show some (t.eqv x.1 y.1&&Els.eqv (t'::ts) x.2 y.2)=some (Xq t.eqv (Els.eqv (t'::ts)) x y);unfold Xq;cases t.eqv x.1 y.1<;>rfl
theorem Qlv{P:Program}{tab:Qo}{kt:Nat}{d:TypeDesc}{a:Qi}(h:X8 P tab kt d a=true):a.scalar=true:=by
 have key1:∀(fs:List Field) (ts:List Ty) (i:Nat),Yt tab fs ts i=true→ts.all Ty.scalar=true:=by
  intro fs;induction fs with
  |nil=>intro ts i h;cases ts<;>first|rfl|(simp[Yt]at h)
  |cons f fs ih=>
   intro ts i h;cases ts with
   |nil=>rfl
   |cons t ts=>
    simp only[Yt]at h;split at h
    ·cases h
    ·split at h
     ·cases h
     ·split at h
      ·cases h
      ·rw[Bool.and_eq_true]at h;rw[List.all_cons,Bool.and_eq_true];exact⟨(Kz h.1).2,ih _ _ h.2⟩
 have key2:∀(d:TypeDesc) (ts:List Ty),Xu d ts=true→ts.all Ty.scalar=true:=by
  intro d ts;induction ts with
  |nil=>intro _;rfl
  |cons t ts ih=>intro h;simp only[Xu,Bool.and_eq_true]at h;rw[List.all_cons,Bool.and_eq_true];exact⟨(Kz h.1).2,ih h.2⟩
 unfold X8 at h;split at h
 ·split at h
  ·split at h
   ·cases h
   ·exact key1 _ _ _ h
  ·split at h
   ·cases h
   ·simp only[Bool.and_eq_true]at h;exact key2 _ _ h.2.2
  ·cases h
 ·cases h
theorem Qbn{P:Program}{tab:Qo}{kt:Nat}{d:TypeDesc}{a:Qi}(h:Wv P tab kt d a=true):a.scalar=true:=by
 unfold Wv at h;split at h
 ·rename_i e;exact Qpa e
 ·exact Qlv h
theorem Zid{P:Program}{tab:Qo}{kt:Nat}{d:TypeDesc}{a:Qi}{i:TI}(hi:tab.lookup kt=some i)(h:X8 P tab kt i.desc a=true)(x y:a.El):eqV P tab 2 kt (a.raw x) (a.raw y)=some (a.eqv x y):=by
 unfold X8 at h;split at h
 ·rename_i row;split at h
  ·rename_i fs hd;split at h
   ·cases h
   ·rename_i hs;simp only[eqV,hi,hd,hs,Qi.raw,SV.cells?];exact Qpt (P:=P) (n:=0) fs.toList row 0 x y h (fun j q hq=>by simp[hq]) (fun j q hq=>by simp[hq])
  ·rename_i len e hd;split at h
   ·cases h
   ·rename_i ie hie;simp only[Bool.and_eq_true]at h;have e1:=Nat.eq_of_beq_eq_true h.1;have e2:=Nat.eq_of_beq_eq_true h.2.1;simp only[eqV,hi,hd,hie,Qi.raw,SV.cells?,e2,←e1];exact Qtk (P:=P) (n:=0) hie row 0 x y h.2.2 (fun j q hq=>by simp[hq]) (fun j q hq=>by simp[hq])
  ·cases h
 ·cases h
theorem Qeh{P:Program}{tab:Qo}(htab:Qf P tab){ft off:Nat}{i:TI}(hi:tab.lookup ft=some i)(hd:i.desc.isRow=false){cs:Array Value}{v:Value}(hv:cs[off]? =some v)(w:World):(part ft cs off).run P w=.ok v w:=by have ht:=htab.get hi;obtain⟨h1,h2⟩:=Array.getElem?_eq_some_iff.1 hv;simp[part,V0 ht,hd,h1,h2]
theorem Qbx{P:Program}{tab:Qo}(htab:Qf P tab){ft:Nat}{i:TI}(hi:tab.lookup ft=some i){t:Ty}(h:Z4 i.desc (.val t)=true)(x:t.El)(e:Bool)(n:Nat)(w:World):
  (Instr.checkKey e (n+1) ft (t.toV x)).run P w=.ok () w:=by
 unfold Instr.checkKey;simp only[Sem.run_bind,run_underlying (htab.get hi).und,Result.andThen_ok];generalize i.desc=d at h;cases t<;>cases d<;>first|(simp only[Z4,Bool.false_eq_true]at h;done)|rfl
theorem Qra{P:Program}{tab:Qo}(htab:Qf P tab){cs:Array Value}{e:Bool}{n:Nat}(w:World):∀(fs:List Field) (ts:List Ty) (i:Nat) (x:Els ts),Yt tab fs ts i=true→(∀j v,(Y5 ts x)[j]? =some v→cs[i+j]? =some v)→
  Sem.run P (forIn fs PUnit.unit fun f __s=>if f.name= "_" then pure (ForInStep.yield PUnit.unit)else do
     let v ←part f.type cs f.offset
     (fun a=>ForInStep.yield PUnit.unit)<$>Instr.checkKey e (n+1) f.type v) w=.ok PUnit.unit w
 |[],[],i,x,h,hx=>by simp
 |[],_::_,i,x,h,hx=>by simp[Yt]at h
 |_::_,[],i,x,h,hx=>by simp[Yt]at h
 |f::fs,[t],i,x,h,hx=>by
  simp only[Yt]at h;split at h
  ·cases h
  ·rename_i hn;have hn:=of_decide_eq_false hn;split at h
   ·cases h
   ·rename_i ho;have ho:=Nat.eq_of_beq_eq_true ho;split at h
    ·cases h
    ·rename_i d hd;rw[Bool.and_eq_true]at h;have h1:=Qeh htab hd (Kz h.1).1 (hx 0 (t.toV x) rfl) w;rw[Nat.add_zero,←ho]at h1;have h4:fs=[]:=by
      cases fs with
      |nil=>rfl
      |cons _ _=>simp[Yt]at h
     subst h4;rw[List.forIn_cons];simp only[hn,if_false,Sem.run_bind,h1,Result.andThen_ok,Sem.run_map,Qbx htab hd h.1 x e n w];simp
 |f::fs,t::t'::ts,i,x,h,hx=>by
  simp only[Yt]at h;split at h
  ·cases h
  ·rename_i hn;have hn:=of_decide_eq_false hn;split at h
   ·cases h
   ·rename_i ho;have ho:=Nat.eq_of_beq_eq_true ho;split at h
    ·cases h
    ·rename_i d hd;rw[Bool.and_eq_true]at h;have h1:=Qeh htab hd (Kz h.1).1 (hx 0 (t.toV x.1) rfl) w;rw[Nat.add_zero,←ho]at h1;have h4:=Qra htab (cs:=cs) (e:=e) (n:=n) w fs (t'::ts) (i+1) x.2 h.2 (fun j q hq=>by rw[Nat.add_assoc,Nat.add_comm 1 j];exact hx (j+1) q hq);rw[List.forIn_cons];simp only[hn,if_false,Sem.run_bind,h1,Result.andThen_ok,Sem.run_map,Qbx htab hd h.1 x.1 e n w];simpa using h4
theorem Qsv{P:Program}{tab:Qo}(htab:Qf P tab){cs:Array Value}{e:Bool}{n el:Nat}{ie:TI}(he:tab.lookup el=some ie)(hz:ie.size=1)(w:World):∀(ts:List Ty) (i:Nat) (x:Els ts),Xu ie.desc ts=true→(∀j v,(Y5 ts x)[j]? =some v→cs[i+j]? =some v)→
  Sem.run P (forIn (List.range' i ts.length) PUnit.unit fun i __s=>do
    let z ←sizeOf el;let v ←part el cs (i*z)
    (fun a=>ForInStep.yield PUnit.unit)<$>Instr.checkKey e (n+1) el v) w=.ok PUnit.unit w
 |[],i,x,h,hx=>by simp
 |[t],i,x,h,hx=>by
  simp only[Xu,Bool.and_eq_true]at h;obtain⟨inf,hinf,i1,_⟩:=(htab.get he).inf;have hsz:(Go.sizeOf el).run P w=.ok 1 w:=by simp[Go.sizeOf,typeInfo,hinf,i1,hz]
  have h1:=Qeh htab he (Kz h.1).1 (hx 0 (t.toV x) rfl) w;rw[Nat.add_zero]at h1;simp only[List.length_cons,List.length_nil,List.range'_succ,List.range'_zero,List.forIn_cons,Sem.run_bind,hsz,Nat.mul_one,h1,Result.andThen_ok,Sem.run_map,Qbx htab he h.1 x e n w];simp
 |t::t'::ts,i,x,h,hx=>by
  simp only[Xu,Bool.and_eq_true]at h;obtain⟨inf,hinf,i1,_⟩:=(htab.get he).inf;have hsz:(Go.sizeOf el).run P w=.ok 1 w:=by simp[Go.sizeOf,typeInfo,hinf,i1,hz]
  have h1:=Qeh htab he (Kz h.1).1 (hx 0 (t.toV x.1) rfl) w;rw[Nat.add_zero]at h1;have h4:=Qsv htab (cs:=cs) (e:=e) (n:=n) he hz w (t'::ts) (i+1) x.2 (by simp only[Xu,Bool.and_eq_true];exact h.2) (fun j q hq=>by rw[Nat.add_assoc,Nat.add_comm 1 j];exact hx (j+1) q hq);rw[List.length_cons,List.range'_succ,List.forIn_cons];simp only[Sem.run_bind,hsz,Nat.mul_one,h1,Result.andThen_ok,Sem.run_map,Qbx htab he h.1 x.1 e n w];simpa using h4
theorem Qw2{P:Program}{tab:Qo}(htab:Qf P tab){kt:Nat}{i:TI}(hi:tab.lookup kt=some i){a:Qi}(h:X8 P tab kt i.desc a=true)(x:a.El)(e:Bool)(w:World):(Instr.checkKey e 10000 kt (a.Q8 x)).run P w=.ok () w:=by
 unfold X8 at h;split at h
 ·rename_i row;split at h
  ·rename_i fs hd;split at h
   ·cases h
   ·have hu:=(htab.get hi).und;rw[hd]at hu;unfold Instr.checkKey;simp only[Sem.run_bind,run_underlying hu,Result.andThen_ok];dsimp only[Qi.Q8];simp;rw[←Array.forIn_toList];exact Qra htab w fs.toList row 0 x h (fun j v hv=>by simpa using hv)
  ·rename_i len el hd;split at h
   ·cases h
   ·rename_i ie hie;simp only[Bool.and_eq_true]at h;have e1:=Nat.eq_of_beq_eq_true h.1;have e2:=Nat.eq_of_beq_eq_true h.2.1;have hu:=(htab.get hi).und;rw[hd]at hu;unfold Instr.checkKey;simp only[Sem.run_bind,run_underlying hu,Result.andThen_ok];dsimp only[Qi.Q8];simp;rw[←e1];exact Qsv htab hie e2 w row 0 x h.2.2 (fun j v hv=>by simpa using hv)
  ·cases h
 ·cases h
theorem Qae{P:Program}{tab:Qo}(htab:Qf P tab){kt:Nat}{i:TI}(hi:tab.lookup kt=some i){a:Qi}(h:Wv P tab kt i.desc a=true)(x:a.El)(e:Bool)(w:World):(Instr.checkKey e 10000 kt (a.Q8 x)).run P w=.ok () w:=by
 unfold Wv at h;split at h
 ·rename_i hd;cases a with
  |val t=>exact Qbx htab hi hd x e 9999 w
  |agg row=>exact absurd hd (by generalize i.desc=d;cases d<;>simp[Z4])
 ·exact Qw2 htab hi h x e w
theorem Zfs:∀(ts:List Ty) (x:Els ts),ts.all Ty.scalar=true→((Y5 ts x).zip (Y5 ts x)).all (fun p=>Instr.sameBits 9999 p.1 p.2)=true:=by
 have cell:∀(t:Ty) (x:t.El),t.scalar=true→Instr.sameBits 9999 (t.toV x) (t.toV x)=true:=by
  intro t x h;cases t with
  |int k=>
   have key:∀a:Int,Instr.sameBits 9999 (.int k a) (.int k a)=true:=fun a=>by simp[Instr.sameBits]
   exact key x
  |str=>
   have key:∀a:ByteArray,Instr.sameBits 9999 (.string a) (.string a)=true:=fun a=>by simp only[Instr.sameBits,Qb8,Yz,decide_true]
   exact key x
  |bool=>
   have key:∀a:Bool,Instr.sameBits 9999 (.bool a) (.bool a)=true:=fun a=>by simp[Instr.sameBits]
   exact key x
  |seq r=>cases h
 intro ts;induction ts with
 |nil=>intro x h;rfl
 |cons t ts ih=>
  intro x h;rw[List.all_cons,Bool.and_eq_true]at h;cases ts with
  |nil=>show(((t.toV x,t.toV x)::[]).all _)=true;simp[cell t x h.1]
  |cons t' ts=>have:=ih x.2 h.2;show(((t.toV x.1,t.toV x.1)::((Y5 (t'::ts) x.2).zip (Y5 (t'::ts) x.2))).all _)=true;rw[List.all_cons,cell t x.1 h.1,this];rfl
theorem Qvc{a:Qi}(hs:a.scalar=true)(x:a.El):Instr.sameBits 10000 (a.Q8 x) (a.Q8 x)=true:=by
 cases a with
 |val t=>
  cases t with
  |int k=>
   have key:∀a:Int,Instr.sameBits 10000 (.int k a) (.int k a)=true:=fun a=>by simp[Instr.sameBits]
   exact key x
  |str=>
   have key:∀a:ByteArray,Instr.sameBits 10000 (.string a) (.string a)=true:=fun a=>by simp only[Instr.sameBits,Qb8,Yz,decide_true]
   exact key x
  |bool=>
   have key:∀a:Bool,Instr.sameBits 10000 (.bool a) (.bool a)=true:=fun a=>by simp[Instr.sameBits]
   exact key x
  |seq r=>cases hs
 |agg row=>have h:=Zfs row x hs;show Instr.sameBits (9999+1) (.agg (Y5 row x).toArray) (.agg (Y5 row x).toArray)=true;simp only[Instr.sameBits,beq_self_eq_true,Bool.true_and];exact h
theorem Ua{α β:Type}(P:Program)(x:Sem α)(f:α→Sem β):Zp P (x>>=f)=(Zp P x).bind fun a=>Zp P (f a):=by
 show Zp P (x.bind f)=_;induction x with
 |pure a=>rfl
 |program k ih=>simp only[Sem.bind,Zp];exact ih P
 |mark m k ih=>simp only[Sem.bind,Zp];exact ih
 |_=>simp[Sem.bind,Zp]
theorem Ju{α:Type}(P:Program)(a:α):Zp P (pure a:Sem α)=some a:=rfl
theorem Qtv(kind:TypeDesc)(k:Value):∀(l1 l2:List MapEntry) (i:Nat) (r:Option (Nat×Value)),l1.map (·.key)=l2.map (·.key)→Instr.findNow kind k l1 i=some r→
  (r=none∧Instr.findNow kind k l2 i=some none)∨∃(j:Nat) (v:Value) (e:MapEntry),r=some (i+j,v)∧l2[j]? =some e∧Instr.findNow kind k l2 i=some (some (i+j,e.val))
 |[],[],i,r,_,h=>by simp[Instr.findNow]at h;subst h;exact .inl ⟨rfl,rfl⟩
 |[],_::_,_,_,hk,_=>by simp at hk
 |_::_,[],_,_,hk,_=>by simp at hk
 |a::l1,b::l2,i,r,hk,h=>by
  simp only[List.map_cons,List.cons.injEq]at hk;obtain⟨hk0,hk⟩:=hk;simp only[Instr.findNow,hk0]at h⊢;split at h
  ·rename_i hs;cases h;exact .inr ⟨0,a.val,b,rfl,rfl,by simp[hs]⟩
  ·rename_i hs;rcases Qtv kind k l1 l2 (i+1) r hk h with⟨h1,h2⟩|⟨j,v,e,h1,h2,h3⟩
   ·exact .inl ⟨h1,by simp[hs,h2]⟩
   ·exact .inr ⟨j+1,v,e,by rw[h1];congr 2;omega,by simpa using h2,by simp[hs,h3];omega⟩
  ·cases h
theorem Qqj(kind:TypeDesc)(k:Value):∀(l1 l2:List MapEntry) (i:Nat),l1.map (·.key)=l2.map (·.key)→Instr.findNow kind k l1 i=none→Instr.findNow kind k l2 i=none
 |[],[],i,_,h=>by simp[Instr.findNow]at h
 |[],_::_,_,hk,_=>by simp at hk
 |_::_,[],_,hk,_=>by simp at hk
 |a::l1,b::l2,i,hk,h=>by
  simp only[List.map_cons,List.cons.injEq]at hk;obtain⟨hk0,hk⟩:=hk;simp only[Instr.findNow,hk0]at h⊢;split at h
  ·cases h
  ·rename_i hs;simp[hs,Qqj kind k l1 l2 (i+1) hk h]
  ·rename_i hs;simp[hs]
theorem Qq7(P:Program)(t:TypeId)(k:Value):∀(l1 l2:List MapEntry) (i:Nat) (r:Option (Nat×Value)),l1.map (·.key)=l2.map (·.key)→Zp P (Instr.findAsking t k l1 i)=some r→
  (r=none∧Zp P (Instr.findAsking t k l2 i)=some none)∨∃(j:Nat) (v:Value) (e:MapEntry),r=some (i+j,v)∧l2[j]? =some e∧Zp P (Instr.findAsking t k l2 i)=some (some (i+j,e.val))
 |[],[],i,r,_,h=>by simp[Instr.findAsking,Ju]at h;subst h;exact .inl ⟨rfl,rfl⟩
 |[],_::_,_,_,hk,_=>by simp at hk
 |_::_,[],_,_,hk,_=>by simp at hk
 |a::l1,b::l2,i,r,hk,h=>by
  simp only[List.map_cons,List.cons.injEq]at hk;obtain⟨hk0,hk⟩:=hk;simp only[Instr.findAsking,Ua,hk0]at h⊢;cases hb:Zp P (Op.equal t k b.key)with
  |none=>simp[hb]at h
  |some c=>
   simp only[hb,Option.bind_some]at h⊢;cases c with
   |true=>simp[Ju]at h;subst h;exact .inr ⟨0,a.val,b,rfl,rfl,by simp[Ju]⟩
   |false=>
    simp only[Bool.false_eq_true,if_false]at h⊢;rcases Qq7 P t k l1 l2 (i+1) r hk h with⟨h1,h2⟩|⟨j,v,e,h1,h2,h3⟩
    ·exact .inl ⟨h1,h2⟩
    ·exact .inr ⟨j+1,v,e,by rw[h1];congr 2;omega,by simpa using h2,by rw[h3];congr 3;omega⟩
theorem Zgx(P:Program)(t:TypeId)(k:Value){l1 l2:List MapEntry}{r:Option (Nat×Value)}(hk:l1.map (·.key)=l2.map (·.key))(h:Zp P (Instr.findKey t k l1)=some r):
  (r=none∧Zp P (Instr.findKey t k l2)=some none)∨∃(j:Nat) (v:Value) (e:MapEntry),r=some (j,v)∧l2[j]? =some e∧Zp P (Instr.findKey t k l2)=some (some (j,e.val)):=by
 simp only[Instr.findKey,Ua]at h⊢;cases hu:Zp P (underlying t)with
 |none=>simp[hu]at h
 |some d=>
  simp only[hu,Option.bind_some]at h⊢;cases hf:Instr.findNow d k l1 0 with
  |some q=>
   simp only[hf,Ju,Option.some.injEq]at h;subst h;rcases Qtv d k l1 l2 0 q hk hf with⟨h1,h2⟩|⟨j,v,e,h1,h2,h3⟩
   ·exact .inl ⟨h1,by simp[h2,Ju]⟩
   ·exact .inr ⟨j,v,e,by simpa using h1,h2,by simp[h3,Ju]⟩
  |none=>
   simp only[hf]at h;rw[Qqj d k l1 l2 0 hk hf];simp only;rcases Qq7 P t k l1 l2 0 r hk h with⟨h1,h2⟩|⟨j,v,e,h1,h2,h3⟩
   ·exact .inl ⟨h1,h2⟩
   ·exact .inr ⟨j,v,e,by simpa using h1,h2,by simpa using h3⟩
abbrev Ent:=Value×SV×Nat
def Xh(es:List Ent):List MapEntry:=es.map fun e=>{key:=e.1,val:=.bool false,born:=e.2.2}
def J4(P:Program)(kt:TypeId)(k:Value)(es:List Ent):Option (Option Nat):=
 match Zp P (Instr.findKey kt k (Xh es))with
 |none=>none
 |some none=>some none
 |some (some (j,_))=>some (some j)
structure Yu (M:Qc) (ρ:Env) (arr:Array MapEntry) (es:List Ent):Prop where
 sz:arr.size=es.length
 rep:∀(i:Nat) (k:Value) (x:SV) (b:Nat),es[i]? =some (k,x,b)→∃e:MapEntry,arr[i]? =some e∧e.key=k∧e.born=b∧Qd M ρ e.val x
theorem Yu.keys{M:Qc}{ρ:Env}{arr:Array MapEntry}{es:List Ent}(h:Yu M ρ arr es):(Xh es).map (·.key)=arr.toList.map (·.key):=by
 apply List.ext_getElem?;intro i;simp only[Xh,List.map_map,List.getElem?_map];by_cases hi:i<es.length
 ·obtain⟨e,h1,h2,_⟩:=h.rep i es[i].1 es[i].2.1 es[i].2.2 (by simp[hi]);rw[←Array.getElem?_toList]at h1;simp[hi,h1,h2]
 ·rw[List.getElem?_eq_none (by omega),List.getElem?_eq_none (by simp;rw[h.sz];omega)];rfl
theorem Jt{P:Program}{M:Qc}{ρ:Env}{arr:Array MapEntry}{es:List Ent}{kt:TypeId}{k:Value}(h:Yu M ρ arr es)(w:World):
  (J4 P kt k es=some none→(Instr.findKey kt k arr.toList).run P w=.ok none w)∧
  (∀j,J4 P kt k es=some (some j)→∃(e:MapEntry) (x:Ent),arr[j]? =some e∧es[j]? =some x∧e.key=x.1∧e.born=x.2.2∧Qd M ρ e.val x.2.1∧(Instr.findKey kt k arr.toList).run P w=.ok (some (j,e.val)) w):=by
 unfold J4;cases hf:Zp P (Instr.findKey kt k (Xh es))with
 |none=>exact⟨fun h=>by simp at h,fun j h=>by simp at h⟩
 |some r=>
  rcases Zgx P kt k h.keys hf with⟨rfl,h2⟩|⟨j,v,e,rfl,h2,h3⟩
  ·exact⟨fun _=>Kj h2 w,fun j h=>by simp at h⟩
  ·refine⟨fun h=>by simp at h,fun j' hj=>?_⟩;simp at hj;subst hj;rw[Array.getElem?_toList]at h2;have hlt:j<es.length:=by have:=(Array.getElem?_eq_some_iff.1 h2).1;rw[h.sz]at this;exact this
   obtain⟨e',a1,a2,a3,a4⟩:=h.rep j es[j].1 es[j].2.1 es[j].2.2 (by simp[hlt]);rw[h2]at a1;cases a1;exact⟨e,es[j],h2,by simp[hlt],a2,a3,a4,Kj h3 w⟩
def Kr(P:Program)(empty:Bool)(kt:TypeId)(k:Value):Bool:=(Zp P (Instr.checkKey empty 10000 kt k)).isSome
theorem Vt{P:Program}{empty:Bool}{kt:TypeId}{k:Value}(h:Kr P empty kt k=true)(w:World):(Instr.checkKey empty 10000 kt k).run P w=.ok () w:=by unfold Kr at h;obtain⟨u,hu⟩:=Option.isSome_iff_exists.1 h;exact Kj hu w
theorem Qx.K5{M:Qc}{ρ:Env}{w:World}{s:Nat}{es:List Ent}{c:Nat}{p:Place}(h:Qx M ρ w s (.map es c))(hp:ρ s=some p):∃arr,w.heap[p.block]? =some (.map arr c)∧Yu M ρ arr es:=by obtain⟨q,arr,h1,h2,h3,h4⟩:=h;rw[hp]at h1;cases h1;exact⟨arr,h2,h3,h4⟩
def valOf(t:Ty):SV→Option t.El
 |.pv p=>t.of p
 |_=>none
def Qiv(row:List Ty):SV→Option (Els row)
 |.pv (.lit (.agg cs))=>ofRow row (cs.toList.map .lit)
 |.agg l=>match Jj l with
  |some ps=>ofRow row ps
  |none=>none
 |_=>none
def Qi.W7:(a:Qi)→SV→Option a.El
 |.val t=>valOf t
 |.agg row=>Qiv row
theorem Qi.Vy{M:Qc}{ρ:Env}{a:Qi}{x:SV}{v:Value}{y:a.El}(h:a.W7 x=some y)(hx:Qd M ρ v x):Qd M ρ v (a.raw y):=by
 cases a with
 |val t=>
  have h:valOf t x=some y:=h;unfold valOf at h;split at h
  ·cases hx with
   |pv hp=>exact .pv (Ty.Qoe h hp)
  ·cases h
 |agg row=>
  replace h:Qiv row x=some y:=h;have fin:∀(cs:Array Value) (l:List PV),ofRow row l=some y→cs.size=l.length→(∀(i:Nat) (u:Value) (q:PV),cs[i]? =some u→l[i]? =some q→Q5 M u q)→Qd M ρ (.agg cs) ((Qi.agg row).raw y):=fun cs l hy hl hr=>by obtain⟨g1,g2⟩:=Kp hy;refine .agg cs _ (by simp[hl,g1]) fun i u z hu hz=>?_;simp only[List.getElem?_map,Option.map_eq_some_iff]at hz;obtain⟨q,hq,rfl⟩:=hz;obtain⟨p,hp,himp⟩:=g2 i q hq;exact .pv (himp M u (hr i u p hu hp))
  unfold Qiv at h;split at h
  ·rename_i cs;have:=hx.Q0;subst this;refine fin cs _ h (by simp) fun i u q hu hq=>?_;simp only[List.getElem?_map,Option.map_eq_some_iff,Array.getElem?_toList]at hq;obtain⟨q',hq',rfl⟩:=hq;rw[hu]at hq';cases hq';exact .lit _
  ·split at h
   ·rename_i l ps hps;have e:=Vi hps;subst e;cases hx with
    |agg cs _ hl hr=>
     refine fin cs ps h (by simpa using hl) fun i u q hu hq=>?_;have:=hr i u (.pv q) hu (by simp[hq]);cases this with
     |pv h=>exact h
   ·cases h
  ·cases h
theorem Ty.Zm9{M:Qc}{v:Value}:∀{t:Ty} {x:t.El},t.scalar=true→Q5 M v (t.pv x)→v=t.toV x
 |.int _,_,_,h=>by cases h;rfl
 |.bool,_,_,h=>by cases h;rfl
 |.str,_,_,h=>by cases h;rfl
theorem Qkj:∀(ts:List Ty) (x:Els ts),ts.all Ty.scalar=true→Q1 ts x=(Y5 ts x).map .lit
 |[],_,_=>rfl
 |[t],x,h=>by cases t<;>first|rfl|(simp[Ty.scalar]at h)
 |t::t'::ts,x,h=>by simp only[List.all_cons,Bool.and_eq_true]at h;have:=Qkj (t'::ts) x.2 (by simp only[List.all_cons,Bool.and_eq_true];exact h.2);simp only[Q1,Y5,List.map_cons,this];cases t<;>first|rfl|(simp[Ty.scalar]at h)
theorem Qds{M:Qc}{ρ:Env}{a:Qi}{x:a.El}{v:Value}(hs:a.scalar=true)(h:Qd M ρ v (a.raw x)):v=a.Q8 x:=by
 cases a with
 |val t=>
  cases h with
  |pv h=>exact Ty.Zm9 hs h
 |agg row=>
  have e:=Qkj row x hs;simp only[Qi.raw,e]at h;cases h with
  |agg cs _ hl hr=>
   show _=Value.agg (Y5 row x).toArray;congr 1;apply Array.ext
   ·simpa using hl
   ·intro i h1 h2;have:=hr i cs[i] (.lit ((Y5 row x).toArray[i])) (by simp[h1]) (by simp at h2;simp[h2]);rw[this.Q0]
def Z5{K V:Type}(eq:K→K→Bool)(k:K):List (K×V)→Nat→Option (Nat×V)
 |[],_=>none
 |e::l,i=>match eq k e.1 with
  |true=>some (i,e.2)
  |false=>Z5 eq k l (i+1)
theorem X3{k v:Qi}:∀(l:List (k.El×v.El)) (n i:Nat),(Zl k v n l)[i]? =(l[i]?).map fun x=>(k.Q8 x.1,v.raw x.2,n+i)
 |[],n,i=>by simp[Zl]
 |x::l,n,i=>by
  cases i with
  |zero=>simp[Zl]
  |succ i=>simp only[Zl,List.getElem?_cons_succ,X3 l (n+1) i];congr 1;funext x;rw[Nat.add_right_comm,Nat.add_assoc]
theorem Qmx{k v:Qi}(l:List (k.El×v.El))(n j:Nat)(x:k.El×v.El):Zl k v n (l.set j x)=(Zl k v n l).set j (k.Q8 x.1,v.raw x.2,n+j):=by
 apply List.ext_getElem?;intro i;rw[X3,List.getElem?_set,List.getElem?_set,Wq,X3];split
 ·rename_i e;subst e;split<;>rfl
 ·rfl
theorem Qrc{k v:Qi}(l:List (k.El×v.El))(n:Nat)(x:k.El×v.El):Zl k v n (l++[x])=Zl k v n l++[(k.Q8 x.1,v.raw x.2,n+l.length)]:=by
 apply List.ext_getElem?;intro i;rw[X3,List.getElem?_append,List.getElem?_append,Wq,X3];split
 ·rfl
 ·rename_i h;by_cases e:i-l.length=0
  ·have:i=l.length:=by omega
   subst this;simp
  ·obtain⟨m,hm⟩:=Nat.exists_eq_succ_of_ne_zero e;rw[hm];simp
theorem Qq0{d:TypeDesc}{k v:Qi}(hd:Z4 d k=true)(x:k.El):∀(l:List (k.El×v.El)) (n i:Nat),
  ∃r,Instr.findNow d (k.Q8 x) (Xh (Zl k v n l)) i=some r∧r.map (·.1)=(Z5 k.eqv x l i).map (·.1)
 |[],n,i=>⟨none,rfl,rfl⟩
 |y::l,n,i=>by
  obtain⟨r,h1,h2⟩:=Qq0 hd x l (n+1) (i+1);have hs:Instr.sameNow d (k.Q8 x) (k.Q8 y.1)=some (k.eqv x y.1):=by
   unfold Z4 at hd;split at hd
   ·rename_i a b;show Instr.sameNow (.int _) (.int b x) (.int b y.1)=some (Qbr x y.1);simp only[Instr.sameNow,if_true];rfl
   ·show Instr.sameNow .string (.string x) (.string y.1)=some (Yz x y.1);have key:∀a b:ByteArray,Instr.sameNow .string (.string a) (.string b)=some (Yz a b):=fun a b=>by simp only[Instr.sameNow,Qb8]
    exact key x y.1
   ·show Instr.sameNow .bool (.bool x) (.bool y.1)=some (Ud x y.1);have key:∀a b:Bool,Instr.sameNow .bool (.bool a) (.bool b)=some (Ud a b):=by decide
    exact key x y.1
   ·cases hd
  show∃r,Instr.findNow d (k.Q8 x) ({key:=k.Q8 y.1,val:=.bool false,born:=n}::Xh (Zl k v (n+1) l)) i=some r∧_;simp only[Instr.findNow,hs,Z5];cases k.eqv x y.1 with
  |true=>exact⟨_,rfl,rfl⟩
  |false=>exact⟨r,h1,h2⟩
theorem Qz9{P:Program}{kt:TypeId}{d:TypeDesc}(hu:P.underlying kt=some d){k v:Qi}(hd:Z4 d k=true)(x:k.El)(l:List (k.El×v.El)):
  J4 P kt (k.Q8 x) (Zl k v 0 l)=some ((Z5 k.eqv x l 0).map (·.1)):=by
 obtain⟨r,h1,h2⟩:=Qq0 hd x l 0 0;have:Zp P (Instr.findKey kt (k.Q8 x) (Xh (Zl k v 0 l)))=some r:=by
  unfold Instr.findKey;rw[Ua];have:Zp P (underlying kt)=some d:=by unfold underlying;rw[Ua];show(some P).bind _=_;simp only[Option.bind_some,hu,Ju]
  rw[this];simp only[Option.bind_some,h1,Ju]
 unfold J4;rw[this];cases r with
 |none=>simp only[Option.map_none]at h2;rw[←h2]
 |some p=>simp only[Option.map_some]at h2;rw[←h2]
theorem Qgg{K V:Type}{eq:K→K→Bool}{k:K}:∀{l:List (K×V)} {n j:Nat} {v:V},Z5 eq k l n=some (j,v)→∃i e,j=n+i∧l[i]? =some e∧e.2=v∧eq k e.1=true
 |[],n,j,v,h=>by cases h
 |e::l,n,j,v,h=>by
  simp only[Z5]at h;split at h
  ·rename_i he;cases h;exact⟨0,e,rfl,rfl,rfl,he⟩
  ·obtain⟨i,e',h1,h2,h3,h4⟩:=Qgg h;exact⟨i+1,e',by omega,by simpa using h2,h3,h4⟩
def Qi.ofZ:(a:Qi)→Value→Option a.El
 |a,z=>a.W7 (.lit z)
def Wt{K V:Type}(eq:K→K→Bool)(k:K)(l:List (K×V))(z:V):V:=match Z5 eq k l 0 with
 |some p=>p.2
 |none=>z
def Kl{K V:Type}(eq:K→K→Bool)(k:K)(l:List (K×V)):Bool:=(Z5 eq k l 0).isSome
def Qaq{K V:Type}(eq:K→K→Bool)(k:K)(x:V)(l:List (K×V)):List (K×V):=match Z5 eq k l 0 with
 |some p=>l.set p.1 (k,x)
 |none=>l++[(k,x)]
def Qb3{K V:Type}(eq:K→K→Bool)(k:K)(l:List (K×V)):Nat:=match Z5 eq k l 0 with
 |some p=>p.1
 |none=>l.length
theorem Yv.rep{M:Qc}{ρ:Env}{w:World}{s:Nat}{es:List Ent}{c:Nat}{p:Place}(h:Yv M ρ w s es c)(hp:ρ s=some p):∃arr,w.heap[p.block]? =some (.map arr c)∧Yu M ρ arr es:=by obtain⟨q,arr,h1,h2,h3,h4⟩:=h;rw[hp]at h1;cases h1;exact⟨arr,h2,h3,h4⟩
def Qu8(H:List Qa):Qn:=.eff (.mp H.length) (H++[.map [] 0]) [] []
theorem Zby{P:Program}{M:Qc}{ρ:Env}{H:List Qa}{w:World}{K:Qr}(hm:Mem M ρ H w){t:TypeId}(h:(Qu8 H).holds H K):Qv P (Instr.makeMap t none) M ρ H w K:=by
 have hrun:(Instr.makeMap t none).run P w=.ok (.map (some w.heap.size)) (w.alloc (.map #[] 0)):=by simp[Instr.makeMap]
 obtain⟨g1,g2⟩:=hm.alloc (w':=w.alloc (.map #[] 0)) (o:=.map #[] 0) (so:=.map [] 0) (cap:=0) rfl
  ⟨_,#[],Env.set_self ..,heap_alloc_new w _,rfl,fun i k x b hi=>by simp at hi⟩
 exact⟨_,_,hrun,_,_,[],[],M,_,h,.mp _ _ (Env.set_self ..),g1,g2⟩
def Kd(P:Program)(tab:Qo)(H:List Qa)(t:Nat)(m k:SV)(ok:Bool):Qn:=
 match tab.lookup t with
 |some {desc:=.map kt et,..}=>match k with
  |.pv (.lit kv)=>match m with
   |.mp s=>match H[s]? with
    | some (.map es c)=>if Kr P es.isEmpty kt kv then match J4 P kt kv es with
      |some (some j)=>match es[j]? with
       |some e=>.ok (if ok then .tup [e.2.1,.lit (.bool true)]else e.2.1)
       |none=>.fail
      |some none=>match tab.lookup et with
       |some i=>.ok (if ok then .tup [.lit i.zero,.lit (.bool false)]else .lit i.zero)
       |none=>.fail
      |none=>.fail
     else .fail
    |_=>.fail
   |.pv (.lit (.map none))=>if Kr P true kt kv then match tab.lookup et,tab.lookup kt with
     |some i,some _=>.ok (if ok then .tup [.lit i.zero,.lit (.bool false)]else .lit i.zero)
     |_,_=>.fail
    else .fail
   |_=>.fail
  |_=>.fail
 |_=>.fail
theorem Wa{M:Qc}{ρ:Env}{v:Value}{x:SV}{b ok:Bool}(h:Qd M ρ v x):Qd M ρ (if ok then .tuple #[v,.bool b]else v) (if ok then .tup [x,.lit (.bool b)]else x):=by
 cases ok with
 |false=>simpa using h
 |true=>
  simp only[if_true];refine .tup _ _ rfl fun i u y hu hy=>?_;match i with
  |0=>simp at hu hy;subst hu;subst hy;exact h
  |1=>simp at hu hy;subst hu;subst hy;exact .pv (.lit _)
  |i+2=>simp at hy
theorem J7{P:Program}{t:TypeId}{i:TI}(h:Z3 P t i)(w:World):(zeroValue t).run P w=.ok i.zero w:=by obtain⟨n,hn,_,_,h3⟩:=h.inf;simp[zeroValue,typeInfo,hn,h3]
theorem Qjd{P:Program}{tab:Qo}(htab:Qf P tab){M:Qc}{ρ:Env}{H:List Qa}{w:World}{K:Qr}(hm:Mem M ρ H w){t:Nat}{m k:SV}{vm vk:Value}{ok:Bool}(hmr:Qd M ρ vm m)(hkr:Qd M ρ vk k)
  (h:(Kd P tab H t m k ok).holds H K):Qv P (Instr.lookup t vm vk ok) M ρ H w K:=by
 unfold Kd at h;split at h
 ·rename_i kt et sz' by' zr rw' hte;have hu:P.underlying t=some (.map kt et):=(htab.get hte).und;split at h
  ·rename_i kv;have:=hkr.Q0;subst this;split at h
   ·rename_i s;split at h
    ·rename_i es c ho;split at h
     ·rename_i hko;cases hmr with
      |mp _ p hp=>
       obtain⟨arr,hheap,hrep⟩:=(hm.own s _ ho).K5 hp;have hempty:arr.isEmpty=es.isEmpty:=by have:=hrep.sz;simp only[Array.isEmpty,this];cases es<;>simp
       obtain⟨f1,f2⟩:=Jt (P:=P) (kt:=kt) (k:=vk) hrep w;have hget:=run_getObj_map (P:=P) hheap;have hkey:=Vt hko w;rw[←hempty]at hkey;split at h
       ·rename_i j hj;obtain⟨e,x,a1,a2,a3,a4,a5,a6⟩:=f2 j hj;rw[a2]at h;simp only at h;refine Qv.same hm ?_ (Wa (ok:=ok) (b:=true) a5) h;simp[Instr.lookup,run_underlying hu,hget,hkey,a6]
       ·rename_i hj;split at h
        ·rename_i i hi;refine Qv.same hm ?_ (Wa (ok:=ok) (b:=false) (.pv (.lit _))) h;simp[Instr.lookup,run_underlying hu,hget,hkey,f1 hj,J7 (htab.get hi)]
        ·exact h.elim
       ·exact h.elim
     ·exact h.elim
    ·exact h.elim
   ·split at h
    ·rename_i hko;have:=hmr.Q0;subst this;have hkey:=Vt hko w;split at h
     ·rename_i i ik hi hik;have hnone:(Instr.findKey kt vk []).run P w=.ok none w:=by simp only[Instr.findKey,Instr.findNow,Sem.run_bind,run_underlying (htab.get hik).und,Result.andThen_ok,Sem.run_pure]
      refine Qv.same hm ?_ (Wa (ok:=ok) (b:=false) (.pv (.lit _))) h;simp[Instr.lookup,run_underlying hu,hkey,hnone,J7 (htab.get hi)]
     ·exact h.elim
    ·exact h.elim
   ·exact h.elim
  ·exact h.elim
 ·exact h.elim
def Qdh(P:Program)(tab:Qo)(H:List Qa)(t:Nat)(m k x:SV):Qn:=
 match tab.lookup t,m,k with
 |some {desc:=.map kt et,..},.mp s,.pv (.lit kv)=>match H[s]? with
  | some (.map es c)=>if Kr P false kt kv then match J4 P kt kv es with
    |some (some j)=>match es[j]? with
     |some e=>if Instr.sameBits 10000 e.1 kv then .eff .any (H.set s (.map (es.set j (kv,x,e.2.2)) c)) [s] []else .fail
     |none=>.fail
    |some none=>.eff .any (H.set s (.map (es++[(kv,x,c)]) (c+1))) [s] []
    |none=>.fail
   else .fail
  |_=>.fail
 |_,_,_=>.fail
theorem Wc{P:Program}{w:World}{b:Nat}{es:Array MapEntry}{c:Nat}(h:w.heap[b]? =some (.map es c))(o:Obj):(setObj b o).run P w=.ok () {w with heap:=w.heap.setIfInBounds b o}:=by simp[setObj,Sem.run,h]
theorem Qhx{w:World}{b k:Nat}{o:Obj}(h:k≠b):(w.heap.setIfInBounds b o)[k]? =w.heap[k]? :=Array.getElem?_setIfInBounds_ne (Ne.symm h)
theorem Yu.set{M:Qc}{ρ:Env}{arr:Array MapEntry}{es:List Ent}{j:Nat}{e:MapEntry}{k:Value}{v:Value}{x:SV}{b:Nat}(h:Yu M ρ arr es)(hj:arr[j]? =some e)(hx:Qd M ρ v x)(hb:e.born=b)
  (f:MapEntry→MapEntry) (hf:f e={e with key:=k,val:=v}):Yu M ρ (arr.modify j f) (es.set j (k,x,b)):=by
 refine⟨by simp[h.sz],fun i k' x' b' hi=>?_⟩;have hlt:j<arr.size:=(Array.getElem?_eq_some_iff.1 hj).1;rw[List.getElem?_set]at hi;split at hi
 ·rename_i e';subst e';rw[if_pos (by rw[←h.sz];exact hlt)]at hi;cases hi;refine⟨{e with key:=k,val:=v},?_,rfl,hb,hx⟩;rw[Array.getElem?_modify];simp[hj,hf]
 ·rename_i e';obtain⟨q,a1,a2⟩:=h.rep i k' x' b' hi;exact⟨q,by rw[Array.getElem?_modify,if_neg e'];exact a1,a2⟩
theorem Yu.push{M:Qc}{ρ:Env}{arr:Array MapEntry}{es:List Ent}{k v:Value}{x:SV}{c:Nat}(h:Yu M ρ arr es)(hx:Qd M ρ v x):Yu M ρ (arr.push {key:=k,val:=v,born:=c}) (es++[(k,x,c)]):=by
 refine⟨by simp[h.sz],fun i k' x' b' hi=>?_⟩;rw[List.getElem?_append]at hi;split at hi
 ·rename_i hlt;obtain⟨q,a1,a2⟩:=h.rep i k' x' b' hi;exact⟨q,by rw[Array.getElem?_push];rw[if_neg (by rw[h.sz];omega)];exact a1,a2⟩
 ·rename_i hlt;have e:i=es.length:=by
   by_cases e:i=es.length
   ·exact e
   ·rw[List.getElem?_eq_none (by simp;omega)]at hi;cases hi
  subst e;simp at hi;obtain⟨rfl,rfl,rfl⟩:=hi;exact⟨_,by rw[Array.getElem?_push,if_pos h.sz.symm],rfl,rfl,hx⟩
theorem Qb1{P:Program}{M:Qc}{ρ:Env}{H:List Qa}{w:World}{K:Qr}(hm:Mem M ρ H w){s:Nat}{es es':List Ent}{c c':Nat}{p:Place}{arr arr':Array MapEntry}(ho:H[s]? =some (.map es c))(hp:ρ s=some p)
  (hheap:w.heap[p.block]? =some (.map arr c)) (hr:Yu M ρ arr' es'):Mem M ρ (H.set s (.map es' c')) {w with heap:=w.heap.setIfInBounds p.block (.map arr' c')}∧Fr M ρ H w M ρ (H.set s (.map es' c')) {w with heap:=w.heap.setIfInBounds p.block (.map arr' c')} H.length [s] []:=by
 have hlt:p.block<w.heap.size:=(Array.getElem?_eq_some_iff.1 hheap).1;exact hm.put ho rfl hp (fun b hb=>Qhx hb) (by simp) rfl ⟨p,arr',hp,by simp[hlt],hr.sz,hr.rep⟩
theorem Qrw{P:Program}{tab:Qo}(htab:Qf P tab){M:Qc}{ρ:Env}{H:List Qa}{w:World}{K:Qr}(hm:Mem M ρ H w){t:Nat}{m k x:SV}{vm vk v:Value}(hmr:Qd M ρ vm m)(hkr:Qd M ρ vk k)(hx:Qd M ρ v x)
  (h:(Qdh P tab H t m k x).holds H K):Wj P (Instr.mapUpdate t vm vk v) M ρ H w K:=by
 unfold Qdh at h;split at h
 ·rename_i kt et sz' by' zr rw' s kv hte;have hu:P.underlying t=some (.map kt et):=(htab.get hte).und;have:=hkr.Q0;subst this;split at h
  ·rename_i es c ho;split at h
   ·rename_i hko;cases hmr with
    |mp _ p hp=>
     obtain⟨arr,hheap,hrep⟩:=(hm.own s _ ho).K5 hp;obtain⟨f1,f2⟩:=Jt (P:=P) (kt:=kt) (k:=vk) hrep w;have hget:=run_getObj_map (P:=P) hheap;have hkey:=Vt hko w;split at h
     ·rename_i j hj;obtain⟨e,x',a1,a2,a3,a4,a5,a6⟩:=f2 j hj;rw[a2]at h;simp only at h;split at h
      ·rename_i hsb;have hks:(Instr.keyThatStays (((arr[j]?).map (·.key)).getD vk) vk).run P w=.ok vk w:=by rw[a1];simp only[Option.map_some,Option.getD_some,a3];simp[Instr.keyThatStays,hsb]
       obtain⟨g1,g2⟩:=Qb1 (P:=P) (K:=K) (c':=c) hm ho hp hheap (hrep.set a1 hx a4 (fun e=>{e with key:=vk,val:=v}) rfl);refine⟨_,?_,.any,_,[s],[],M,ρ,h,rfl,g1,g2⟩;simp[Instr.mapUpdate,run_underlying hu,hget,hkey,a6,hks,Wc hheap]
      ·exact h.elim
     ·rename_i hj;obtain⟨g1,g2⟩:=Qb1 (P:=P) (K:=K) (c':=c+1) hm ho hp hheap (hrep.push (k:=vk) (c:=c) hx);refine⟨_,?_,.any,_,[s],[],M,ρ,h,rfl,g1,g2⟩;simp[Instr.mapUpdate,run_underlying hu,hget,hkey,f1 hj,Wc hheap]
     ·exact h.elim
   ·exact h.elim
  ·exact h.elim
 ·exact h.elim
def Qeg(P:Program)(tab:Qo)(H:List Qa)(t:Nat)(m k:SV):Qn:=
 match tab.lookup t,m,k with
 |some {desc:=.map kt et,..},.mp s,.pv (.lit kv)=>match H[s]? with
  | some (.map es c)=>if Kr P false kt kv then match J4 P kt kv es with
    |some (some j)=>match es[j]? with
     |some e=>if Instr.sameBits 10000 e.1 kv then .eff (.tup [e.2.1,.lit (.int .i64 e.2.2)]) (H.set s (.map (es.set j (kv,e.2.1,e.2.2)) c)) [s] []else .fail
     |none=>.fail
    |some none=>match tab.lookup et with
     |some i=>.eff (.tup [.lit i.zero,.lit (.int .i64 c)]) (H.set s (.map (es++[(kv,.lit i.zero,c)]) (c+1))) [s] []
     |none=>.fail
    |none=>.fail
   else .fail
  |_=>.fail
 |_,_,_=>.fail
theorem Qc3{M:Qc}{ρ:Env}{v u:Value}{x y:SV}(h:Qd M ρ v x)(k:Qd M ρ u y):Qd M ρ (.tuple #[v,u]) (.tup [x,y]):=by
 refine .tup _ _ rfl fun i a b ha hb=>?_;match i with
 |0=>simp at ha hb;subst ha;subst hb;exact h
 |1=>simp at ha hb;subst ha;subst hb;exact k
 |i+2=>simp at hb
theorem Qph{P:Program}{tab:Qo}(htab:Qf P tab){M:Qc}{ρ:Env}{H:List Qa}{w:World}{K:Qr}(hm:Mem M ρ H w){t:Nat}{m k:SV}{vm vk:Value}(hmr:Qd M ρ vm m)(hkr:Qd M ρ vk k)
  (h:(Qeg P tab H t m k).holds H K):Qv P (Instr.mapEntry t vm vk) M ρ H w K:=by
 unfold Qeg at h;split at h
 ·rename_i kt et sz' by' zr rw' s kv hte;have hu:P.underlying t=some (.map kt et):=(htab.get hte).und;have:=hkr.Q0;subst this;split at h
  ·rename_i es c ho;split at h
   ·rename_i hko;cases hmr with
    |mp _ p hp=>
     obtain⟨arr,hheap,hrep⟩:=(hm.own s _ ho).K5 hp;obtain⟨f1,f2⟩:=Jt (P:=P) (kt:=kt) (k:=vk) hrep w;have hget:=run_getObj_map (P:=P) hheap;have hkey:=Vt hko w;split at h
     ·rename_i j hj;obtain⟨e,x',a1,a2,a3,a4,a5,a6⟩:=f2 j hj;rw[a2]at h;simp only at h;split at h
      ·rename_i hsb;have hks:(Instr.keyThatStays e.key vk).run P w=.ok vk w:=by rw[a3];simp[Instr.keyThatStays,hsb]
       obtain⟨g1,g2⟩:=Qb1 (P:=P) (K:=K) (c':=c) hm ho hp hheap (hrep.set a1 a5 a4 (fun e=>{e with key:=vk}) rfl);refine⟨.tuple #[e.val,goInt e.born],_,?_,_,_,[s],[],M,ρ,h,?_,g1,g2⟩
       ·simp[Instr.mapEntry,run_underlying hu,hget,hkey,a6,hks,Wc hheap,a1]
       ·rw[a4];exact Qc3 a5 (.pv (.lit _))
      ·exact h.elim
     ·rename_i hj;split at h
      ·rename_i i hi;obtain⟨g1,g2⟩:=Qb1 (P:=P) (K:=K) (c':=c+1) hm ho hp hheap (hrep.push (k:=vk) (c:=c) (v:=i.zero) (x:=.lit i.zero) (.pv (.lit _)));refine⟨.tuple #[i.zero,goInt c],_,?_,_,_,[s],[],M,ρ,h,Qc3 (.pv (.lit _)) (.pv (.lit _)),g1,g2⟩;simp[Instr.mapEntry,run_underlying hu,hget,hkey,f1 hj,Wc hheap,J7 (htab.get hi)]
      ·exact h.elim
     ·exact h.elim
   ·exact h.elim
  ·exact h.elim
 ·exact h.elim
def Qd9(H:List Qa)(m st x:SV):Qn:=
 match m,st with
 |.mp s,.pv (.lit (.int _ n))=>match H[s]? with
  |some (.map es c)=>match es.findIdx? (fun e=>(e.2.2:Int)==n)with
   |some j=>match es[j]? with
    |some e=>.eff .any (H.set s (.map (es.set j (e.1,x,e.2.2)) c)) [s] []
    |none=>.fail
   |none=>.fail
  |_=>.fail
 |_,_=>.fail
theorem Qpb{P:Program}{M:Qc}{ρ:Env}{H:List Qa}{w:World}{K:Qr}(hm:Mem M ρ H w){t:Nat}{m st x:SV}{vm vs v:Value}(hmr:Qd M ρ vm m)(hst:Qd M ρ vs st)(hx:Qd M ρ v x)
  (h:(Qd9 H m st x).holds H K):Wj P (Instr.entryStore t vm vs v) M ρ H w K:=by
 unfold Qd9 at h;split at h
 ·rename_i s k n;have:=hst.Q0;subst this;split at h
  ·rename_i es c ho;split at h
   ·rename_i j hj;split at h
    ·rename_i e he;cases hmr with
     |mp _ p hp=>
      obtain⟨arr,hheap,hrep⟩:=(hm.own s _ ho).K5 hp;obtain⟨q,a1,a2,a3,a4⟩:=hrep.rep j e.1 e.2.1 e.2.2 he;have hget:=run_getObj_map (P:=P) hheap;have hidx:arr.findIdx? (fun e=>(e.born:Int)==n)=some j:=by
       have hborn:∀i:Nat,(arr[i]?).map (fun e=>(e.born:Int)==n)=(es[i]?).map (fun e=>(e.2.2:Int)==n):=fun i=>by
        by_cases hi:i<es.length
        ·obtain⟨z,b1,b2,b3,_⟩:=hrep.rep i es[i].1 es[i].2.1 es[i].2.2 (by simp[hi]);rw[b1];simp[hi,b3]
        ·rw[List.getElem?_eq_none (by omega),Array.getElem?_eq_none (by rw[hrep.sz];omega)];rfl
       rw[List.findIdx?_eq_some_iff_getElem]at hj;rw[Array.findIdx?_eq_some_iff_getElem];obtain⟨c1,c2,c3⟩:=hj;have hl:j<arr.size:=by rw[hrep.sz];exact c1
       refine⟨hl,?_,fun i hi=>?_⟩
       ·have:=hborn j;simp only[Array.getElem?_eq_getElem hl,List.getElem?_eq_getElem c1,Option.map_some,Option.some.injEq]at this;rw[this];exact c2
       ·have hi2:i<arr.size:=by omega
        have hi3:i<es.length:=by omega
        have:=hborn i;simp only[Array.getElem?_eq_getElem hi2,List.getElem?_eq_getElem hi3,Option.map_some,Option.some.injEq]at this;rw[this];exact c3 i hi
      obtain⟨g1,g2⟩:=Qb1 (P:=P) (K:=K) (c':=c) hm ho hp hheap (hrep.set (k:=e.1) a1 hx a3 (fun e=>{e with val:=v}) (by rw[←a2]));refine⟨_,?_,.any,_,[s],[],M,ρ,h,rfl,g1,g2⟩;simp[Instr.entryStore,hget,asInt,asIntOf,hidx,Wc hheap]
    ·exact h.elim
   ·exact h.elim
  ·exact h.elim
 ·exact h.elim
theorem Zcs{P:Program}{M:Qc}{ρ:Env}{arr:Array MapEntry}{kt:TypeId}{d:TypeDesc}(hu:P.underlying kt=some d){k v:Qi}(hd:Z4 d k=true){l:List (k.El×v.El)}(hr:Yu M ρ arr (Zl k v 0 l))(x:k.El)(w:World):
  (Z5 k.eqv x l 0=none→(Instr.findKey kt (k.Q8 x) arr.toList).run P w=.ok none w)∧
  (∀j y,Z5 k.eqv x l 0=some (j,y)→∃e,arr[j]? =some e∧j<l.length∧e.key=k.Q8 x∧e.born=j∧Qd M ρ e.val (v.raw y)∧(Instr.findKey kt (k.Q8 x) arr.toList).run P w=.ok (some (j,e.val)) w):=by
 obtain⟨f1,f2⟩:=Jt (P:=P) (kt:=kt) (k:=k.Q8 x) hr w;have hs:=Qz9 (P:=P) hu hd x l;refine⟨fun h=>f1 (by rw[hs,h];rfl),fun j y h=>?_⟩;obtain⟨e,z,a1,a2,a3,a4,a5,a6⟩:=f2 j (by rw[hs,h];rfl);obtain⟨i,q,b1,b2,b3,b4⟩:=Qgg h;have:i=j:=by omega
 subst this;rw[X3,b2]at a2;simp only[Option.map_some,Option.some.injEq]at a2;subst a2;have hk:=Qi.eqv_ok k _ _ b4;refine⟨e,a1,(List.getElem?_eq_some_iff.1 b2).1,by rw[a3,←hk],by rw[a4];simp,by rw[←b3];exact a5,a6⟩
theorem Qfs{M:Qc}{ρ:Env}:∀{a:Qi} (hs:a.scalar=true) (x:a.El),Qd M ρ (a.Q8 x) (a.raw x)
 |.val (.int _),_,_=>.pv (.lit _)
 |.val .str,_,_=>.pv (.lit _)
 |.val .bool,_,_=>.pv (.lit _)
 |.val (.seq _),hs,_=>by cases hs
 |.agg row,hs,x=>by have e:=Qkj row x hs;show Qd M ρ (.agg (Y5 row x).toArray) (.agg ((Q1 row x).map .pv));rw[e];refine .agg _ _ (by simp) fun i v y hv hy=>?_;simp only[List.getElem?_map,Option.map_eq_some_iff]at hy;obtain⟨q,⟨u,hu,rfl⟩,rfl⟩:=hy;rw[List.getElem?_toArray,hu]at hv;cases hv;exact .pv (.lit _)
theorem Zis{P:Program}{tab:Qo}(htab:Qf P tab){kt:Nat}{i:TI}(hi:tab.lookup kt=some i){a:Qi}(h:X8 P tab kt i.desc a=true)(x y:a.El)(w:World):(Op.equal kt (a.Q8 x) (a.Q8 y)).run P w=.ok (a.eqv x y) w:=
 Qer htab (M:=Qc.base) (ρ:=fun _=>none) w 2 kt (a.raw x) (a.raw y) _ _ _ (Zid (d:=i.desc) hi h x y) (Qfs (Qlv h) x) (Qfs (Qlv h) y) Op.maxDepth (by decide)
theorem Que{P:Program}{tab:Qo}(htab:Qf P tab){kt:Nat}{i:TI}(hi:tab.lookup kt=some i){k v:Qi}(h:X8 P tab kt i.desc k=true)(x:k.El)(w:World):∀(l:List (k.El×v.El)) (es:List MapEntry) (n:Nat),
  es.length=l.length→(∀(j:Nat) (z:k.El×v.El),l[j]? =some z→∃e:MapEntry,es[j]? =some e∧e.key=k.Q8 z.1)→
  (Z5 k.eqv x l n=none→(Instr.findAsking kt (k.Q8 x) es n).run P w=.ok none w)∧(∀j y,Z5 k.eqv x l n=some (j,y)→∃e,n≤j∧es[j-n]? =some e∧(Instr.findAsking kt (k.Q8 x) es n).run P w=.ok (some (j,e.val)) w)
 |[],[],n,_,_=>⟨fun _=>by simp[Instr.findAsking],fun j y hf=>by cases hf⟩
 |[],_::_,n,hl,_=>by simp at hl
 |_::_,[],n,hl,_=>by simp at hl
 |z::l,e::es,n,hl,hk=>by
  obtain⟨e',g1,g2⟩:=hk 0 z rfl;simp only[List.getElem?_cons_zero,Option.some.injEq]at g1;subst g1;have he:=Zis htab hi h x z.1 w;rw[←g2]at he;obtain⟨ih1,ih2⟩:=Que htab hi h x w l es (n+1) (by simpa using hl) (fun j z hz=>by simpa using hk (j+1) z (by simpa using hz));simp only[Z5,Instr.findAsking,Sem.run_bind,he,Result.andThen_ok];cases k.eqv x z.1 with
  |true=>exact⟨fun hf=>(by cases hf),fun j y hf=>(by cases hf;exact⟨e,Nat.le_refl _,by simp,by simp⟩)⟩
  |false=>refine⟨fun hf=>by simpa using ih1 hf,fun j y hf=>?_⟩;obtain⟨e2,q1,q2,q3⟩:=ih2 j y hf;refine⟨e2,by omega,?_,by simpa using q3⟩;rw[show j-n=(j-(n+1))+1 by omega];simpa using q2
theorem Qv1{P:Program}{tab:Qo}{kt:Nat}{d:TypeDesc}{k:Qi}(h:X8 P tab kt d k=true)(x:k.El)(e:MapEntry)(es:List MapEntry)(n:Nat):Instr.findNow d (k.Q8 x) (e::es) n=none:=by
 have hs:∀u,Instr.sameNow d (k.Q8 x) u=none:=by
  intro u;unfold X8 at h;split at h
  ·split at h
   ·rfl
   ·rfl
   ·cases h
  ·cases h
 simp only[Instr.findNow,hs]
theorem Kh{P:Program}{tab:Qo}(htab:Qf P tab){M:Qc}{ρ:Env}{arr:Array MapEntry}{kt:TypeId}{i:TI}(hi:tab.lookup kt=some i){k v:Qi}(hd:Wv P tab kt i.desc k=true){l:List (k.El×v.El)}(hr:Yu M ρ arr (Zl k v 0 l))(x:k.El)(w:World):
  (Z5 k.eqv x l 0=none→(Instr.findKey kt (k.Q8 x) arr.toList).run P w=.ok none w)∧
  (∀j y,Z5 k.eqv x l 0=some (j,y)→∃e,arr[j]? =some e∧j<l.length∧e.key=k.Q8 x∧e.born=j∧Qd M ρ e.val (v.raw y)∧(Instr.findKey kt (k.Q8 x) arr.toList).run P w=.ok (some (j,e.val)) w):=by
 have hu:=(htab.get hi).und;unfold Wv at hd;split at hd
 ·rename_i hd';exact Zcs hu hd' hr x w
 ·have hlen:arr.toList.length=l.length:=by have:=hr.sz;rw[Wq]at this;simpa using this
  have hkeys:∀(j:Nat) (z:k.El×v.El),l[j]? =some z→∃e:MapEntry,arr.toList[j]? =some e∧e.key=k.Q8 z.1:=fun j z hz=>by obtain⟨e,a1,a2,_⟩:=hr.rep j (k.Q8 z.1) (v.raw z.2) (0+j) (by rw[X3,hz];rfl);exact⟨e,by rw[Array.getElem?_toList];exact a1,a2⟩
  obtain⟨f1,f2⟩:=Que htab hi hd x w l arr.toList 0 hlen hkeys;have hfk:∀r,(Z5 k.eqv x l 0=none∨∃q,Z5 k.eqv x l 0=some q)→(Instr.findAsking kt (k.Q8 x) arr.toList 0).run P w=.ok r w→(Instr.findKey kt (k.Q8 x) arr.toList).run P w=.ok r w:=fun r _ hrun=>by
   unfold Instr.findKey;simp only[Sem.run_bind,run_underlying hu,Result.andThen_ok];cases hl:arr.toList with
   |nil=>rw[hl]at hrun;simp only[Instr.findAsking,Sem.run_pure]at hrun;simp only[Instr.findNow,Sem.run_pure];exact hrun
   |cons e es=>rw[Qv1 hd x e es 0];rw[hl]at hrun;exact hrun
  refine⟨fun h=>hfk _ (.inl h) (f1 h),fun j y h=>?_⟩;obtain⟨e,_,q2,q3⟩:=f2 j y h;obtain⟨i',q,b1,b2,b3,b4⟩:=Qgg h;have e0:i'=j:=by omega
  subst e0;have hk:=Qi.eqv_ok k _ _ b4;obtain⟨e2,a1,a2,a3,a4⟩:=hr.rep i' (k.Q8 q.1) (v.raw q.2) (0+i') (by rw[X3,b2];rfl);have:e2=e:=by rw[Nat.sub_zero,Array.getElem?_toList,a1]at q2;exact Option.some.inj q2
  subst this;exact⟨e2,a1,(List.getElem?_eq_some_iff.1 b2).1,by rw[a2,←hk],by rw[a3];simp,by rw[←b3];exact a4,hfk _ (.inr ⟨_,h⟩) q3⟩
def Qnn(P:Program)(tab:Qo)(H:List Qa)(kt et:Nat)(ka va:Qi)(l:List (ka.El×va.El))(k:SV)(ok:Bool):Qn:=
 match tab.lookup kt with
 |none=>.fail
 |some ik=>match Wv P tab kt ik.desc ka with
  |false=>.fail
  |true=>match tab.lookup et with
   |none=>.fail
   |some ie=>match ka.W7 k with
    |none=>.fail
    |some kx=>match va.ofZ ie.zero with
     |none=>.fail
     |some z=>.ok (if ok then .tup [va.raw (Wt ka.eqv kx l z),.lit (.bool (Kl ka.eqv kx l))]else va.raw (Wt ka.eqv kx l z))
def Ql1:TypeDesc→Value→Value→Option Bool
 |.int _,.int k a,.int k' b=>match decide (k=k')with
  |true=>some (decide (a=b))
  |false=>none
 |.string,.string a,.string b=>some (Yz a b)
 |.bool,.bool a,.bool b=>some (Ud a b)
 |_,_,_=>none
theorem Zmb{d:TypeDesc}{a b:Value}{c:Bool}(h:Ql1 d a b=some c):Instr.sameNow d a b=some c:=by
 unfold Ql1 at h;split at h
 ·rename_i k' a k b;split at h
  ·rename_i e;have e:=of_decide_eq_true e;subst e;simp only[Instr.sameNow,if_true];rw[←h];rfl
  ·cases h
 ·simp only[Instr.sameNow,Qb8];exact h
 ·rename_i a b;cases a<;>cases b<;>(rw[←h];rfl)
 ·cases h
def Qc8(d:TypeDesc)(kv:Value)(nf:Qn)(ok:Bool):List Ent→Qn
 |[]=>nf
 |e::es=>match Ql1 d kv e.1 with
  |some c=>.split c (.ok (if ok then .tup [e.2.1,.lit (.bool true)]else e.2.1)) (Qc8 d kv nf ok es)
  |none=>.fail
theorem Qq2{H:List Qa}{K:Qr}{d:TypeDesc}{kv:Value}{nf:Qn}{ok:Bool}:∀(es:List Ent) (i:Nat),(Qc8 d kv nf ok es).holds H K→
  (∃j e,es[j]? =some e∧Instr.findNow d kv (Xh es) i=some (some (i+j,.bool false))∧K (if ok then .tup [e.2.1,.lit (.bool true)]else e.2.1) H [] [])∨
  (Instr.findNow d kv (Xh es) i=some none∧nf.holds H K)
 |[],i,h=>.inr ⟨rfl,h⟩
 |e::es,i,h=>by
  simp only[Qc8]at h;split at h
  ·rename_i c hc;have hs:=Zmb hc;have hd:Xh (e::es)={key:=e.1,val:=.bool false,born:=e.2.2}::Xh es:=rfl;rw[hd];simp only[Instr.findNow,hs];cases c with
   |true=>exact .inl ⟨0,e,rfl,rfl,h.1 rfl⟩
   |false=>
    rcases Qq2 es (i+1) (h.2 rfl)with⟨j,e',h1,h2,h3⟩|⟨h1,h2⟩
    ·exact .inl ⟨j+1,e',by simpa using h1,by rw[h2];simp;omega,h3⟩
    ·exact .inr ⟨h1,h2⟩
  ·exact h.elim
def Zdn:TypeDesc→Bool
 |.int _=>true
 |.string=>true
 |.bool=>true
 |_=>false
def Qk0(P:Program)(tab:Qo)(kt et:Nat)(es:List Ent)(k:SV)(ok:Bool):Qn:=match k with
 |.pv (.lit kv)=>match tab.lookup kt with
  |none=>.fail
  |some ik=>match Kr P es.isEmpty kt kv with
   |false=>.fail
   |true=>Qc8 ik.desc kv (match tab.lookup et with
    |some i=>.ok (if ok then .tup [.lit i.zero,.lit (.bool false)]else .lit i.zero)
    |none=>.fail) ok es
 |_=>.fail
theorem Qso{P:Program}{tab:Qo}(htab:Qf P tab){M:Qc}{ρ:Env}{H:List Qa}{K:Qr}{kt et:Nat}{es:List Ent}{k:SV}{vk:Value}{ok:Bool}(hkr:Qd M ρ vk k)
  (h:(Qk0 P tab kt et es k ok).holds H K) {arr:Array MapEntry} (hrep:Yu M ρ arr es):∃ v x,K x H [] [] ∧ Qd M ρ v x ∧
   ∀(w:World) (t b:Nat) (c:Nat),P.underlying t=some (.map kt et)→w.heap[b]? =some (.map arr c)→(Instr.lookup t (.map (some b)) vk ok).run P w=.ok v w:=by
 unfold Qk0 at h;split at h
 ·rename_i kv;have:=hkr.Q0;subst this;split at h
  ·exact h.elim
  ·rename_i ik hik;split at h
   ·exact h.elim
   ·rename_i hko;have hdk:P.underlying kt=some ik.desc:=(htab.get hik).und;have hempty:arr.isEmpty=es.isEmpty:=by have:=hrep.sz;simp only[Array.isEmpty,this];cases es<;>simp
    have hseek:∀r,Instr.findNow ik.desc vk (Xh es) 0=some r→J4 P kt vk es=some (r.map (·.1)):=fun r hr=>by
     have:Zp P (Instr.findKey kt vk (Xh es))=some r:=by
      unfold Instr.findKey;rw[Ua];have:Zp P (underlying kt)=some ik.desc:=by unfold underlying;rw[Ua];show(some P).bind _=_;simp only[Option.bind_some,hdk,Ju]
      rw[this];simp only[Option.bind_some,hr,Ju]
     unfold J4;rw[this];cases r with
     |none=>rfl
     |some p=>rfl
    rcases Qq2 es 0 h with⟨j,e,h1,h2,h3⟩|⟨h1,h2⟩
    ·obtain⟨me,x,a1,a2,a3,a4,a5,_⟩:=(Jt (P:=P) (kt:=kt) (k:=vk) hrep default).2 j (by rw[hseek _ h2];simp);rw[h1]at a2;cases a2;refine⟨_,_,h3,Wa (ok:=ok) (b:=true) a5,fun w t b c hu hheap=>?_⟩;obtain⟨me',x',b1,_,_,_,_,b6⟩:=(Jt (P:=P) (kt:=kt) (k:=vk) hrep w).2 j (by rw[hseek _ h2];simp);rw[a1]at b1;cases b1;have hkey:=Vt hko w;rw[←hempty]at hkey;simp[Instr.lookup,run_underlying hu,run_getObj_map (P:=P) hheap,hkey,b6]
    ·split at h2
     ·rename_i i hi;refine⟨_,_,h2,Wa (ok:=ok) (b:=false) (.pv (.lit _)),fun w t b c hu hheap=>?_⟩;have hkey:=Vt hko w;rw[←hempty]at hkey;simp[Instr.lookup,run_underlying hu,run_getObj_map (P:=P) hheap,hkey,(Jt (P:=P) (kt:=kt) (k:=vk) hrep w).1 (by rw[hseek _ h1];rfl),J7 (htab.get hi)]
     ·exact h2.elim
 ·exact h.elim
def Qbi(P:Program)(tab:Qo)(H:List Qa)(t:Nat)(m k:SV)(ok:Bool):Qn:=
 match m with
 |.mp s=>match H[s]? with
  |some (.tmap ka va l)=>match tab.lookup t with
   |some {desc:=.map kt et,..}=>Qnn P tab H kt et ka va l k ok
   |_=>.fail
  |some (.map es c)=>match tab.lookup t with
   |some {desc:=.map kt et,..}=>match tab.lookup kt with
    |some ik=>match Zdn ik.desc with
     |true=>Qk0 P tab kt et es k ok
     |false=>Kd P tab H t m k ok
    |none=>.fail
   |_=>.fail
  |_=>Kd P tab H t m k ok
 |_=>Kd P tab H t m k ok
theorem Qus{P:Program}{tab:Qo}(htab:Qf P tab){M:Qc}{ρ:Env}{H:List Qa}{K:Qr}{kt et:Nat}{ka va:Qi}{l:List (ka.El×va.El)}{k:SV}{vk:Value}{ok:Bool}(hkr:Qd M ρ vk k)
  (h:(Qnn P tab H kt et ka va l k ok).holds H K) {arr:Array MapEntry} (hr:Yu M ρ arr (Zl ka va 0 l)):∃ v x,K x H [] [] ∧ Qd M ρ v x ∧
   ∀(w:World) (t b:Nat) (c:Nat),P.underlying t=some (.map kt et)→w.heap[b]? =some (.map arr c)→(Instr.lookup t (.map (some b)) vk ok).run P w=.ok v w:=by
 unfold Qnn at h;split at h
 ·exact h.elim
 ·rename_i ik hik;split at h
  ·exact h.elim
  ·rename_i hd;split at h
   ·exact h.elim
   ·rename_i ie hie;split at h
    ·exact h.elim
    ·rename_i kx hkx;split at h
     ·exact h.elim
     ·rename_i z hz;have hvk:=Qds (Qbn hd) (Qi.Vy hkx hkr);subst hvk;have hdk:P.underlying kt=some ik.desc:=(htab.get hik).und;have hzr:Qd M ρ ie.zero (va.raw z):=Qi.Vy (M:=M) (ρ:=ρ) hz (.pv (.lit _));cases hf:Z5 ka.eqv kx l 0 with
      |none=>
       refine⟨_,_,h,Wa (v:=ie.zero) (b:=Kl ka.eqv kx l) (ok:=ok) (by unfold Wt;rw[hf];exact hzr),fun w t b c hu hheap=>?_⟩;have hb:Kl ka.eqv kx l=false:=by unfold Kl;rw[hf];rfl
       rw[hb];simp[Instr.lookup,run_underlying hu,run_getObj_map (P:=P) hheap,Qae htab hik hd,(Kh htab hik hd hr kx w).1 hf,J7 (htab.get hie)]
      |some q=>
       obtain⟨j,y⟩:=q;obtain⟨e,a1,a2,a3,a4,a5,_⟩:=(Kh htab hik hd hr kx default).2 j y hf;refine⟨_,_,h,Wa (v:=e.val) (b:=Kl ka.eqv kx l) (ok:=ok) (by unfold Wt;rw[hf];exact a5),fun w t b c hu hheap=>?_⟩;have hb:Kl ka.eqv kx l=true:=by unfold Kl;rw[hf];rfl
       rw[hb];obtain⟨e',b1,_,_,_,_,b6⟩:=(Kh htab hik hd hr kx w).2 j y hf;rw[a1]at b1;cases b1;simp[Instr.lookup,run_underlying hu,run_getObj_map (P:=P) hheap,Qae htab hik hd,b6]
theorem Qwj{P:Program}{tab:Qo}(htab:Qf P tab){M:Qc}{ρ:Env}{H:List Qa}{w:World}{K:Qr}(hm:Mem M ρ H w){t:Nat}{m k:SV}{vm vk:Value}{ok:Bool}(hmr:Qd M ρ vm m)(hkr:Qd M ρ vk k)
  (h:(Qbi P tab H t m k ok).holds H K):Qv P (Instr.lookup t vm vk ok) M ρ H w K:=by
 unfold Qbi at h;split at h
 ·rename_i s;split at h
  ·rename_i ka va l ho;split at h
   ·rename_i kt et _ _ _ _ hte;cases hmr with
    |mp _ p hp=>obtain⟨arr,hheap,hrep⟩:=Yv.rep (hm.own s _ ho) hp;obtain⟨v,x,h1,h2,h3⟩:=Qus htab hkr h hrep;exact Qv.same hm (h3 w t p.block _ (htab.get hte).und hheap) h2 h1
   ·exact h.elim
  ·rename_i es c ho;split at h
   ·rename_i kt et _ _ _ _ hte;split at h
    ·split at h
     ·cases hmr with
      |mp _ p hp=>obtain⟨arr,hheap,hrep⟩:=(hm.own s _ ho).K5 hp;obtain⟨v,x,h1,h2,h3⟩:=Qso htab hkr h hrep;exact Qv.same hm (h3 w t p.block _ (htab.get hte).und hheap) h2 h1
     ·exact Qjd htab hm hmr hkr h
    ·exact h.elim
   ·exact h.elim
  ·exact Qjd htab hm hmr hkr h
 ·exact Qjd htab hm hmr hkr h
theorem Qb6{P:Program}{M:Qc}{ρ:Env}{H:List Qa}{w:World}{s:Nat}{ka va:Qi}{l l':List (ka.El×va.El)}{p:Place}{arr arr':Array MapEntry}(hm:Mem M ρ H w)(ho:H[s]? =some (.tmap ka va l))(hp:ρ s=some p)
  (hheap:w.heap[p.block]? = some (.map arr l.length)) (hr:Yu M ρ arr' (Zl ka va 0 l')):Mem M ρ (H.set s (.tmap ka va l')) { w with heap := w.heap.setIfInBounds p.block (.map arr' l'.length) } ∧
   Fr M ρ H w M ρ (H.set s (.tmap ka va l')) {w with heap:=w.heap.setIfInBounds p.block (.map arr' l'.length)} H.length [s] []:=by
 have hlt:p.block<w.heap.size:=(Array.getElem?_eq_some_iff.1 hheap).1;exact hm.put ho rfl hp (fun b hb=>Qhx hb) (by simp) rfl ⟨p,arr',hp,by simp[hlt],hr.sz,hr.rep⟩
def Qdo(P:Program)(tab:Qo)(H:List Qa)(t:Nat)(m k x:SV):Qn:=
 match m with
 |.mp s=>match H[s]? with
  |some (.tmap ka va l)=>match tab.lookup t with
   |some {desc:=.map kt et,..}=>match tab.lookup kt with
    |none=>.fail
    |some ik=>match Wv P tab kt ik.desc ka with
     |false=>.fail
     |true=>match ka.W7 k with
      |none=>.fail
      |some kx=>match va.W7 x with
       |none=>.fail
       |some y=>.eff .any (H.set s (.tmap ka va (Qaq ka.eqv kx y l))) [s] []
   |_=>.fail
  |_=>Qdh P tab H t m k x
 |_=>Qdh P tab H t m k x
theorem Qpk{P:Program}{tab:Qo}(htab:Qf P tab){M:Qc}{ρ:Env}{H:List Qa}{w:World}{K:Qr}(hm:Mem M ρ H w){t:Nat}{m k x:SV}{vm vk v:Value}(hmr:Qd M ρ vm m)(hkr:Qd M ρ vk k)(hx:Qd M ρ v x)
  (h:(Qdo P tab H t m k x).holds H K):Wj P (Instr.mapUpdate t vm vk v) M ρ H w K:=by
 unfold Qdo at h;split at h
 ·rename_i s;split at h
  ·rename_i ka va l ho;split at h
   ·rename_i kt et _ _ _ _ hte;have hu:P.underlying t=some (.map kt et):=(htab.get hte).und;split at h
    ·exact h.elim
    ·rename_i ik hik;split at h
     ·exact h.elim
     ·rename_i hd;split at h
      ·exact h.elim
      ·rename_i kx hkx;split at h
       ·exact h.elim
       ·rename_i y hy;have hvk:=Qds (Qbn hd) (Qi.Vy hkx hkr);subst hvk;have hdk:P.underlying kt=some ik.desc:=(htab.get hik).und;have hyr:=Qi.Vy hy hx;cases hmr with
        |mp _ p hp=>
         obtain⟨arr,hheap,hrep⟩:=Yv.rep (hm.own s _ ho) hp;have hget:=run_getObj_map (P:=P) hheap;cases hf:Z5 ka.eqv kx l 0 with
         |none=>
          have hl':Qaq ka.eqv kx y l=l++[(kx,y)]:=by unfold Qaq;rw[hf]
          rw[hl']at h;obtain⟨g1,g2⟩:=Qb6 (P:=P) hm ho hp hheap (l':=l++[(kx,y)]) (arr':=arr.push {key:=ka.Q8 kx,val:=v,born:=l.length}) (by have:=hrep.push (k:=ka.Q8 kx) (c:=l.length) hyr;rw[Qrc];simpa using this);refine⟨_,?_,.any,_,[s],[],M,ρ,h,rfl,g1,g2⟩;simp[Instr.mapUpdate,run_underlying hu,hget,Qae htab hik hd,(Kh htab hik hd hrep kx w).1 hf,Wc hheap]
         |some q=>
          obtain⟨j,y0⟩:=q;obtain⟨e,a1,a2,a3,a4,a5,a6⟩:=(Kh htab hik hd hrep kx w).2 j y0 hf;have hl':Qaq ka.eqv kx y l=l.set j (kx,y):=by unfold Qaq;rw[hf]
          rw[hl']at h;obtain⟨g1,g2⟩:=Qb6 (P:=P) hm ho hp hheap (l':=l.set j (kx,y)) (arr':=arr.modify j fun e=>{e with key:=ka.Q8 kx,val:=v}) (by have:=hrep.set (k:=ka.Q8 kx) a1 hyr a4 (fun e=>{e with key:=ka.Q8 kx,val:=v}) rfl;rw[Qmx];simpa using this);refine⟨_,?_,.any,_,[s],[],M,ρ,h,rfl,g1,g2⟩;have hks:(Instr.keyThatStays (((arr[j]?).map (·.key)).getD (ka.Q8 kx)) (ka.Q8 kx)).run P w=.ok (ka.Q8 kx) w:=by rw[a1];simp only[Option.map_some,Option.getD_some,a3];simp[Instr.keyThatStays,Qvc (Qbn hd)]
          simp[Instr.mapUpdate,run_underlying hu,hget,Qae htab hik hd,a6,hks,Wc hheap]
   ·exact h.elim
  ·exact Qrw htab hm hmr hkr hx h
 ·exact Qrw htab hm hmr hkr hx h
def Qap{K V:Type}(eq:K→K→Bool)(k:K)(l:List (K×V))(z:V):List (K×V):=match Z5 eq k l 0 with
 |some p=>l.set p.1 (k,p.2)
 |none=>l++[(k,z)]
def Qf4(P:Program)(tab:Qo)(H:List Qa)(t:Nat)(m k:SV):Qn:=
 match m with
 |.mp s=>match H[s]? with
  |some (.tmap ka va l)=>match tab.lookup t with
   |some {desc:=.map kt et,..}=>match tab.lookup kt with
    |none=>.fail
    |some ik=>match Wv P tab kt ik.desc ka with
     |false=>.fail
     |true=>match tab.lookup et with
      |none=>.fail
      |some ie=>match ka.W7 k with
       |none=>.fail
       |some kx=>match va.ofZ ie.zero with
        |none=>.fail
        |some z=>.eff (.tup [va.raw (Wt ka.eqv kx l z),.lit (.int .i64 (Qb3 ka.eqv kx l))]) (H.set s (.tmap ka va (Qap ka.eqv kx l z))) [s] []
   |_=>.fail
  |_=>Qeg P tab H t m k
 |_=>Qeg P tab H t m k
theorem Zku{P:Program}{tab:Qo}(htab:Qf P tab){M:Qc}{ρ:Env}{H:List Qa}{w:World}{K:Qr}(hm:Mem M ρ H w){t:Nat}{m k:SV}{vm vk:Value}(hmr:Qd M ρ vm m)(hkr:Qd M ρ vk k)
  (h:(Qf4 P tab H t m k).holds H K):Qv P (Instr.mapEntry t vm vk) M ρ H w K:=by
 unfold Qf4 at h;split at h
 ·rename_i s;split at h
  ·rename_i ka va l ho;split at h
   ·rename_i kt et _ _ _ _ hte;have hu:P.underlying t=some (.map kt et):=(htab.get hte).und;split at h
    ·exact h.elim
    ·rename_i ik hik;split at h
     ·exact h.elim
     ·rename_i hd;split at h
      ·exact h.elim
      ·rename_i ie hie;split at h
       ·exact h.elim
       ·rename_i kx hkx;split at h
        ·exact h.elim
        ·rename_i z hz;have hvk:=Qds (Qbn hd) (Qi.Vy hkx hkr);subst hvk;have hdk:P.underlying kt=some ik.desc:=(htab.get hik).und;have hzr:Qd M ρ ie.zero (va.raw z):=Qi.Vy (M:=M) (ρ:=ρ) hz (.pv (.lit _));cases hmr with
         |mp _ p hp=>
          obtain⟨arr,hheap,hrep⟩:=Yv.rep (hm.own s _ ho) hp;have hget:=run_getObj_map (P:=P) hheap;cases hf:Z5 ka.eqv kx l 0 with
          |none=>
           have e1:Qap ka.eqv kx l z=l++[(kx,z)]:=by unfold Qap;rw[hf]
           have e2:Wt ka.eqv kx l z=z:=by unfold Wt;rw[hf]
           have e3:Qb3 ka.eqv kx l=l.length:=by unfold Qb3;rw[hf]
           rw[e1,e2,e3]at h;obtain⟨g1,g2⟩:=Qb6 (P:=P) hm ho hp hheap (l':=l++[(kx,z)]) (arr':=arr.push {key:=ka.Q8 kx,val:=ie.zero,born:=l.length}) (by have:=hrep.push (k:=ka.Q8 kx) (c:=l.length) hzr;rw[Qrc];simpa using this);refine⟨.tuple #[ie.zero,goInt l.length],_,?_,_,_,[s],[],M,ρ,h,Qc3 hzr (.pv (.lit _)),g1,g2⟩;simp[Instr.mapEntry,run_underlying hu,hget,Qae htab hik hd,(Kh htab hik hd hrep kx w).1 hf,Wc hheap,J7 (htab.get hie)]
          |some q=>
           obtain⟨j,y0⟩:=q;obtain⟨e,a1,a2,a3,a4,a5,a6⟩:=(Kh htab hik hd hrep kx w).2 j y0 hf;have e1:Qap ka.eqv kx l z=l.set j (kx,y0):=by unfold Qap;rw[hf]
           have e2:Wt ka.eqv kx l z=y0:=by unfold Wt;rw[hf]
           have e3:Qb3 ka.eqv kx l=j:=by unfold Qb3;rw[hf]
           rw[e1,e2,e3]at h;obtain⟨g1,g2⟩:=Qb6 (P:=P) hm ho hp hheap (l':=l.set j (kx,y0)) (arr':=arr.modify j fun e=>{e with key:=ka.Q8 kx}) (by have:=hrep.set (k:=ka.Q8 kx) a1 a5 a4 (fun e=>{e with key:=ka.Q8 kx}) rfl;rw[Qmx];simpa using this);refine⟨.tuple #[e.val,goInt e.born],_,?_,_,_,[s],[],M,ρ,h,?_,g1,g2⟩
           ·have hks:(Instr.keyThatStays e.key (ka.Q8 kx)).run P w=.ok (ka.Q8 kx) w:=by rw[a3];simp[Instr.keyThatStays,Qvc (Qbn hd)]
            simp[Instr.mapEntry,run_underlying hu,hget,Qae htab hik hd,a6,hks,Wc hheap,a1]
           ·rw[a4];exact Qc3 a5 (.pv (.lit _))
   ·exact h.elim
  ·exact Qph htab hm hmr hkr h
 ·exact Qph htab hm hmr hkr h
def Qny{K V:Type}(j:Nat)(x:V)(l:List (K×V)):List (K×V):=match l[j]? with
 |some e=>l.set j (e.1,x)
 |none=>l
def Qfz(H:List Qa)(m st x:SV):Qn:=
 match m with
 |.mp s=>match H[s]? with
  |some (.tmap ka va l)=>match st with
   |.pv (.lit (.int _ n))=>match va.W7 x with
    |none=>.fail
    |some y=>.need (decide (0≤n)) (.need (decide (n.toNat<l.length)) (.eff .any (H.set s (.tmap ka va (Qny n.toNat y l))) [s] []))
   |_=>.fail
  |_=>Qd9 H m st x
 |_=>Qd9 H m st x
theorem Ziz{P:Program}{M:Qc}{ρ:Env}{H:List Qa}{w:World}{K:Qr}(hm:Mem M ρ H w){t:Nat}{m st x:SV}{vm vs v:Value}(hmr:Qd M ρ vm m)(hst:Qd M ρ vs st)(hx:Qd M ρ v x)
  (h:(Qfz H m st x).holds H K):Wj P (Instr.entryStore t vm vs v) M ρ H w K:=by
 unfold Qfz at h;split at h
 ·rename_i s;split at h
  ·rename_i ka va l ho;split at h
   ·rename_i k n;have:=hst.Q0;subst this;split at h
    ·exact h.elim
    ·rename_i y hy;obtain⟨h0,h1,h⟩:=h;have h0:=of_decide_eq_true h0;have h1:=of_decide_eq_true h1;have hyr:=Qi.Vy hy hx;obtain⟨j,rfl⟩:∃j:Nat,n=j:=⟨n.toNat,by omega⟩;simp only[Int.toNat_natCast]at h h1;cases hmr with
     |mp _ p hp=>
      obtain⟨arr,hheap,hrep⟩:=Yv.rep (hm.own s _ ho) hp;have hsz:=hrep.sz;rw[Wq]at hsz;have hgete:∀(i:Nat) (hi:i<l.length),∃e,arr[i]? =some e∧e.key=ka.Q8 l[i].1∧e.born=i∧Qd M ρ e.val (va.raw l[i].2):=fun i hi=>by obtain⟨e,a1,a2,a3,a4⟩:=hrep.rep i (ka.Q8 l[i].1) (va.raw l[i].2) i (by rw[X3,List.getElem?_eq_getElem hi];simp);exact⟨e,a1,a2,a3,a4⟩
      obtain⟨e,a1,a2,a3,a4⟩:=hgete j h1;have hidx:arr.findIdx? (fun e=>(e.born:Int)==(j:Int))=some j:=by
       rw[Array.findIdx?_eq_some_iff_getElem];refine⟨by omega,?_,fun i hi=>?_⟩
       ·rw[Array.getElem?_eq_getElem (by omega)]at a1;simp only[Option.some.injEq]at a1;rw[a1,a3];simp
       ·obtain⟨e',b1,_,b3,_⟩:=hgete i (by omega);rw[Array.getElem?_eq_getElem (by omega)]at b1;simp only[Option.some.injEq]at b1;rw[b1,b3];simp;omega
      have el:Qny j y l=l.set j (l[j].1,y):=by unfold Qny;rw[List.getElem?_eq_getElem h1]
      rw[el]at h;obtain⟨g1,g2⟩:=Qb6 (P:=P) hm ho hp hheap (l':=l.set j (l[j].1,y)) (arr':=arr.modify j fun e=>{e with val:=v}) (by have:=hrep.set (k:=ka.Q8 l[j].1) a1 hyr a3 (fun e=>{e with val:=v}) (by rw[←a2]);rw[Qmx];simpa using this);refine⟨_,?_,.any,_,[s],[],M,ρ,h,rfl,g1,g2⟩;simp[Instr.entryStore,run_getObj_map (P:=P) hheap,asInt,asIntOf,hidx,Wc hheap]
   ·exact h.elim
  ·exact Qpb hm hmr hst hx h
 ·exact Qpb hm hmr hst hx h
def Qa.Qcp:Qa→Option (List (Value×SV×Nat)×Nat)
 |.map es c=>some (es,c)
 |.tmap k v l=>some (Zl k v 0 l,l.length)
 |_=>none
theorem Qjo{M:Qc}{ρ:Env}{w:World}{s:Nat}{o:Qa}{q:List (Value×SV×Nat)×Nat}(h:o.Qcp=some q)(ho:Qx M ρ w s o):Yv M ρ w s q.1 q.2:=by cases o<;>first|(cases h;done)|(cases h;exact ho)
def Qgl(tab:Qo)(H:List Qa)(t:Nat)(x:SV):Qn:=
 match tab.lookup t,x with
 |some {desc:=.string,..},.pv (.lit (.string s))=>.eff (.ptr H.length 0 0 0) (H++[.iter s 0]) [] []
 |some {desc:=.map _ _,..},.mp m=>match H[m]? with
  |some o=>match o.Qcp with
   |some q=>.eff (.ptr H.length 0 0 0) (H++[.mit (some m) q.2 []]) [] []
   |none=>.fail
  |none=>.fail
 |_,_=>.fail
theorem Ziv{P:Program}{tab:Qo}(htab:Qf P tab){M:Qc}{ρ:Env}{H:List Qa}{w:World}{K:Qr}(hm:Mem M ρ H w){t:Nat}{x:SV}{v:Value}(hx:Qd M ρ v x)(h:(Qgl tab H t x).holds H K):Qv P (Instr.range t v) M ρ H w K:=by
 unfold Qgl at h;split at h
 ·rename_i sz' by' zr rw' s hte;have hu:P.underlying t=some .string:=(htab.get hte).und;have:=hx.Q0;subst this;have hrun:(Instr.range t (.string s)).run P w=.ok (.pointer (some ⟨w.heap.size,0,none⟩)) (w.alloc (.stringIter s 0)):=by simp[Instr.range,run_underlying hu]
  obtain⟨g1,g2⟩:=hm.alloc (w':=w.alloc (.stringIter s 0)) (o:=.stringIter s 0) (so:=.iter s 0) (cap:=0) rfl ⟨_,Env.set_self ..,heap_alloc_new w _⟩;exact⟨_,_,hrun,_,_,[],[],M,_,h,.ptr _ _ _ _ _ _ (Env.set_self ..) (by simp),g1,g2⟩
 ·rename_i k e sz' by' zr rw' m hte;have hu:P.underlying t=some (.map k e):=(htab.get hte).und;split at h
  ·rename_i o ho;split at h
   ·rename_i q hq;obtain⟨es,c⟩:=q;obtain⟨pm,arr,h1,h2,h3,h4⟩:=Qjo hq (hm.own m _ ho);simp only at h2 h;cases hx with
    |mp _ p hp=>
     rw[hp]at h1;cases h1;have hget:(getObj pm.block).run P w=.ok (.map arr c) w:=by simp[getObj,Sem.run,h2]
     have hrun:(Instr.range t (.map (some pm.block))).run P w=.ok (.pointer (some ⟨w.heap.size,0,none⟩)) (w.alloc (.mapIter (some pm.block) c #[] c)):=by simp[Instr.range,run_underlying hu,hget]
     have hne:m≠H.length:=fun e=>by have:=(List.getElem?_eq_some_iff.1 ho).1;omega
     obtain⟨g1,g2⟩:=hm.alloc (w':=w.alloc (.mapIter (some pm.block) c #[] c)) (o:=.mapIter (some pm.block) c #[] c) (so:=.mit (some m) c []) (cap:=0) rfl
       ⟨_,_,_,Env.set_self ..,heap_alloc_new w _,rfl,fun mm e=>by cases e;exact⟨pm,by rw[Env.Zm _ _ hne];exact hp,rfl⟩⟩
     exact⟨_,_,hrun,_,_,[],[],M,_,h,.ptr _ _ _ _ _ _ (Env.set_self ..) (by simp),g1,g2⟩
   ·exact h.elim
  ·exact h.elim
 ·exact h.elim
def Qmq(H:List Qa)(x:SV):Qn:=
 match x with
 |.ptr s 0 0 0=>match H[s]? with
  | some (.iter b pos)=>.split (decide (pos < b.size))
    (.eff (.tup [.lit (.bool true),.lit (.int .i64 pos),.lit (.int .i32 (Utf8.decode b pos).1)]) (H.set s (.iter b (pos+(Utf8.decode b pos).2))) [s] [])
    (.ok (.tup [.lit (.bool false)]))
  |_=>.fail
 |_=>.fail
theorem Zlt{P:Program}{M:Qc}{ρ:Env}{H:List Qa}{w:World}{K:Qr}(hm:Mem M ρ H w){t:Nat}{x:SV}{v:Value}(hx:Qd M ρ v x)(h:(Qmq H x).holds H K):Qv P (Instr.next v true t) M ρ H w K:=by
 unfold Qmq at h;split at h
 ·rename_i s;split at h
  ·rename_i b pos ho;cases hx with
   |ptr _ _ _ _ k p hp hk=>
    obtain⟨q,h1,h2⟩:=hm.own s _ ho;rw[hp]at h1;cases h1;have hk0:k=0:=by simpa using hk
    subst hk0;have hget:(getObj p.block).run P w=.ok (.stringIter b pos) w:=by simp[getObj,Sem.run,h2]
    have hset:∀o,(setObj p.block o).run P w=.ok () {w with heap:=w.heap.setIfInBounds p.block o}:=fun o=>by simp[setObj,Sem.run,h2]
    have hlt:p.block<w.heap.size:=(Array.getElem?_eq_some_iff.1 h2).1;obtain⟨ht,hf⟩:=h;by_cases hpos:pos<b.size
    ·have h':=ht (by simpa using hpos);obtain⟨g1,g2⟩:=hm.put (so:=.iter b (pos+(Utf8.decode b pos).2)) (w':={w with heap:=w.heap.setIfInBounds p.block (.stringIter b (pos+(Utf8.decode b pos).2))}) ho rfl hp (fun b' hb=>Qhx hb) (by simp) rfl
      ⟨p,hp,by simp[hlt]⟩
     refine⟨.tuple #[.bool true,goInt pos,.int .i32 (Utf8.decode b pos).1],_,?_,_,_,[s],[],M,ρ,h',?_,g1,g2⟩
     ·simp[Instr.next,hget,hpos,hset]
     ·refine .tup _ _ rfl fun i a c ha hc=>?_;match i with
      |0=>simp at ha hc;subst ha;subst hc;exact .pv (.lit _)
      |1=>simp at ha hc;subst ha;subst hc;exact .pv (.lit _)
      |2=>simp at ha hc;subst ha;subst hc;exact .pv (.lit _)
      |i+3=>simp at hc
    ·have h':=hf (by simpa using hpos);refine Qv.same hm (v:=.tuple #[.bool false]) ?_ ?_ h'
     ·simp[Instr.next,hget,hpos]
     ·refine .tup _ _ rfl fun i a c ha hc=>?_;match i with
      |0=>simp at ha hc;subst ha;subst hc;exact .pv (.lit _)
      |i+1=>simp at hc
  ·exact h.elim
 ·exact h.elim
def Qdu(s m c:Nat)(seen:List Nat)(H:List Qa):List (Value×SV×Nat)→Qn
 |[]=>.ok (.tup [.lit (.bool false)])
 |[e]=>.eff (.tup [.lit (.bool true),.lit e.1,e.2.1]) (H.set s (.mit (some m) c (seen++[e.2.2]))) [s] []
 |e::e'::es=>.both (.eff (.tup [.lit (.bool true),.lit e.1,e.2.1]) (H.set s (.mit (some m) c (seen++[e.2.2]))) [s] []) (Qdu s m c seen H (e'::es))
def Qfi(H:List Qa)(x:SV):Qn:=
 match x with
 |.ptr s 0 0 0=>match H[s]? with
  |some (.mit (some m) c seen)=>match H[m]? with
   |some o=>match o.Qcp with
    |some q=>.need (Nat.beq q.2 c&&q.1.all fun e=>Nat.blt e.2.2 c) (Qdu s m c seen H (q.1.filter fun e=>!seen.contains e.2.2))
    |none=>.fail
   |none=>.fail
  |_=>.fail
 |_=>.fail
theorem Zga{s m c:Nat}{seen:List Nat}{H:List Qa}{K:Qr}{l:List (Value×SV×Nat)}(h:(Qdu s m c seen H l).holds H K)(hl:l=[]):K (.tup [.lit (.bool false)]) H [] []:=by subst hl;exact h
theorem Qp0{s m c:Nat}{seen:List Nat}{H:List Qa}{K:Qr}:∀{l:List (Value×SV×Nat)},(Qdu s m c seen H l).holds H K→∀e∈l,K (.tup [.lit (.bool true),.lit e.1,e.2.1]) (H.set s (.mit (some m) c (seen++[e.2.2]))) [s] []
 |[],h,e,he=>by cases he
 |[e0],h,e,he=>by rw[List.mem_singleton.1 he];exact h
 |e0::e1::l,h,e,he=>by
  rcases List.mem_cons.1 he with rfl|he
  ·exact h.1
  ·exact Qp0 (l:=e1::l) h.2 e he
theorem Zew{P:Program}{M:Qc}{ρ:Env}{H:List Qa}{w:World}{K:Qr}(hm:Mem M ρ H w){t:Nat}{x:SV}{v:Value}(hx:Qd M ρ v x)(h:(Qfi H x).holds H K):Qv P (Instr.next v false t) M ρ H w K:=by
 unfold Qfi at h;split at h
 ·rename_i s;split at h
  ·rename_i m c seen ho;split at h
   rotate_left
   ·exact h.elim
   rename_i om hom0;split at h
   ·rename_i qm hqm;obtain⟨es,c'⟩:=qm;have hom:=Qjo hqm (hm.own m _ hom0);obtain⟨hc,h⟩:=h;rw[Bool.and_eq_true]at hc;simp only at hc h hom;have hcc:=Nat.eq_of_beq_eq_true hc.1;subst hcc;have hbn:∀e∈es,e.2.2<c':=fun e he=>by have:=List.all_eq_true.1 hc.2 e he;rwa[Nat.blt_eq]at this
    cases hx with
    |ptr _ _ _ _ k p hp hk=>
     obtain⟨p',q,sn,h1,h2,h3,h4⟩:=hm.own s _ ho;rw[hp]at h1;cases h1;obtain⟨pm,a1,a2⟩:=h4 m rfl;subst a2;obtain⟨pm',arr,b1,b2,b3,b4⟩:=hom;rw[a1]at b1;cases b1;have hk0:k=0:=by simpa using hk
     subst hk0;have hent:∀(i:Nat) (me:MapEntry),arr[i]? =some me→∃e,es[i]? =some e∧me.key=e.1∧me.born=e.2.2∧Qd M ρ me.val e.2.1:=fun i me hme=>by
      have hi:i<es.length:=by rw[←b3];exact(Array.getElem?_eq_some_iff.1 hme).1
      obtain⟨e,d1,d2,d3,d4⟩:=b4 i _ _ _ (List.getElem?_eq_getElem hi);rw[hme]at d1;cases d1;exact⟨_,List.getElem?_eq_getElem hi,d2,d3,d4⟩
     have hold:∀me∈arr.toList,me.born<c':=fun me hme=>by obtain⟨i,hi⟩:=List.getElem?_of_mem hme;obtain⟨e,d1,_,d3,_⟩:=hent i me (by simpa using hi);rw[d3];exact hbn e (List.mem_of_getElem? d1)
     have hleft:∀me,me∈(leftOf arr sn).toList↔me∈arr.toList∧¬me.born∈seen:=fun me=>by unfold leftOf;simp[←h3]
     rcases run_next_at (P:=P) w t p.block pm.block c' c' sn arr c' h2 b2 hold (Nat.le_refl _)with⟨hz,hr⟩|⟨me,hme,w1,hw1,hr⟩
     ·have hnil:(es.filter fun e=>!seen.contains e.2.2)=[]:=by
       rw[List.filter_eq_nil_iff];intro e he;obtain⟨i,hi⟩:=List.getElem?_of_mem he;obtain⟨me,d1,d2,d3,d4⟩:=b4 i e.1 e.2.1 e.2.2 hi;intro hn;have hmem:me∈(leftOf arr sn).toList:=(hleft me).2 ⟨by simpa using Array.mem_of_getElem? d1,by rw[d3];simpa using hn⟩;have:(leftOf arr sn).toList=[]:=by simpa using hz
       rw[this]at hmem;cases hmem
      have hk:=Zga h hnil;refine Qv.same hm hr ?_ hk;refine .tup _ _ rfl fun i a c ha hc=>?_;match i with
      |0=>simp at ha hc;subst ha;subst hc;exact .pv (.lit _)
      |i+1=>simp at hc
     ·obtain⟨m1,m2⟩:=(hleft me).1 hme;obtain⟨i,hi⟩:=List.getElem?_of_mem m1;obtain⟨e,d1,d2,d3,d4⟩:=hent i me (by simpa using hi);have hein:e∈es.filter fun e=>!seen.contains e.2.2:=List.mem_filter.2 ⟨List.mem_of_getElem? d1,by rw[←d3];simpa using m2⟩;have hk:=Qp0 h e hein;have hlt:p.block<w.heap.size:=(Array.getElem?_eq_some_iff.1 h2).1;have hh1:w1.heap=w.heap∧w1.os=w.os∧w1.output=w.output:=by rcases hw1 with rfl|rfl<;>exact⟨rfl,rfl,rfl⟩
      obtain⟨g1,g2⟩:=hm.put (so:=.mit (some m) c' (seen++[e.2.2])) (w':=ChangeMaps.setBlock w1 p.block (.mapIter (some pm.block) c' (sn.push me.born) c')) ho rfl hp
       (fun b' hb=>by show(w1.heap.setIfInBounds p.block _)[b']? =_;rw[hh1.1,Array.getElem?_setIfInBounds,if_neg fun e=>hb e.symm])
       (by show(w1.heap.setIfInBounds p.block _).size=_;rw[hh1.1];simp) rfl
       ⟨p,some pm.block,sn.push me.born,hp,by show(w1.heap.setIfInBounds p.block _)[p.block]? =_;rw[hh1.1];simp[hlt],by simp[h3,d3],fun mm e=>by cases e;exact⟨pm,a1,rfl⟩⟩
       ⟨hh1.2.1,hh1.2.2⟩
      refine⟨_,_,hr,_,_,[s],[],M,ρ,hk,?_,g1,g2⟩;refine .tup _ _ rfl fun i a c ha hc=>?_;match i with
      |0=>simp at ha hc;subst ha;subst hc;exact .pv (.lit _)
      |1=>simp at ha hc;subst ha;subst hc;rw[d2];exact .pv (.lit _)
      |2=>simp at ha hc;subst ha;subst hc;exact d4
      |i+3=>simp at hc
   ·exact h.elim
  ·exact h.elim
 ·exact h.elim
def Ki(H:List Qa)(x:SV):Qn:=
 match x with
 |.ptr s 0 0 0=>match H[s]? with
  |some (.mit (some m) c seen)=>match H[m]? with
   |some o=>match o.Qcp with
    |some q=>match seen.getLast? with
     |some st=>match q.1.find? fun e=>Nat.beq e.2.2 st with
      |some e=>.need (Nat.beq q.2 c) (.ok (.tup [.lit e.1,e.2.1]))
      |none=>.fail
     |none=>.fail
    |none=>.fail
   |none=>.fail
  |_=>.fail
 |_=>.fail
theorem Qdm{P:Program}{M:Qc}{ρ:Env}{H:List Qa}{w:World}{K:Qr}(hm:Mem M ρ H w){x:SV}{v:Value}(hx:Qd M ρ v x)(h:(Ki H x).holds H K):Qv P (Instr.entry v) M ρ H w K:=by
 unfold Ki at h;split at h
 rotate_left
 ·exact h.elim
 rename_i s;split at h
 rotate_left
 ·exact h.elim
 rename_i m c seen ho;split at h
 rotate_left
 ·exact h.elim
 rename_i om hom0;split at h
 rotate_left
 ·exact h.elim
 rename_i qm hqm;obtain⟨es,c'⟩:=qm;have hom:=Qjo hqm (hm.own m _ hom0);split at h
 rotate_left
 ·exact h.elim
 rename_i st hst;split at h
 rotate_left
 ·exact h.elim
 rename_i e he;obtain⟨hc,h⟩:=h;simp only at hc h hom he;have hcc:=Nat.eq_of_beq_eq_true hc;subst hcc;cases hx with
 |ptr _ _ _ _ k p hp hk=>
  obtain⟨p',q,sn,h1,h2,h3,h4⟩:=hm.own s _ ho;rw[hp]at h1;cases h1;obtain⟨pm,a1,a2⟩:=h4 m rfl;subst a2;obtain⟨pm',arr,b1,b2,b3,b4⟩:=hom;rw[a1]at b1;cases b1;have hk0:k=0:=by simpa using hk
  subst hk0;obtain⟨hp1,i,hi,hei,hmin⟩:=List.find?_eq_some_iff_getElem.1 he;obtain⟨me,d1,d2,d3,d4⟩:=b4 i e.1 e.2.1 e.2.2 (by rw[List.getElem?_eq_getElem hi,hei]);have hst':e.2.2=st:=Nat.eq_of_beq_eq_true hp1;have hf:arr.find? (fun x=>x.born==st)=some me:=by
   rw[←Array.find?_toList];obtain⟨hia,hme⟩:=Array.getElem?_eq_some_iff.1 d1;refine List.find?_eq_some_iff_getElem.2 ⟨by rw[d3,hst'];simp,i,by simpa using hia,by simpa using hme,fun j hj=>?_⟩;have hj':j<es.length:=by omega
   obtain⟨mj,e1,e2,e3,e4⟩:=b4 j _ _ _ (List.getElem?_eq_getElem hj');have hja:j<arr.size:=by omega
   have e1':arr[j]=mj:=by rw[Array.getElem?_eq_getElem hja]at e1;exact Option.some.inj e1
   have hne:=hmin j hj;simp only[Array.getElem_toList,e1',e3];cases hb:Nat.beq (es[j]).2.2 st with
   |true=>rw[hb]at hne;simp at hne
   |false=>
    have:(es[j]).2.2≠st:=fun hh=>by rw[hh,Nat.beq_refl]at hb;cases hb
    simp[this]
  have hback:sn.back? =some st:=by rw[←h3]at hst;rw[←Array.getLast?_toList];exact hst
  refine Qv.same hm (v:=.tuple #[me.key,me.val]) ?_ ?_ h
  ·simp only[Instr.entry,getObj,Sem.run_bind,Sem.run,h2,b2,Result.andThen,hback,bne_self_eq_false,Bool.false_eq_true,if_false,hf];rfl
  ·refine .tup _ _ rfl fun i a b ha hb=>?_;match i with
   |0=>simp at ha hb;subst ha;subst hb;rw[d2];exact .pv (.lit _)
   |1=>simp at ha hb;subst ha;subst hb;exact d4
   |i+2=>simp at hb
def Qi.Zq:(a:Qi)→a.El
 |.val t=>t.Zq
 |.agg row=>Els.Zq row
def Ws(l:List Nat):Nat:=l.getLastD 0
theorem Zly{l:List Nat}(h:0<l.length):l.getLast? =some (Ws l):=by
 unfold Ws;cases e:l.getLast? with
 |none=>rw[List.getLast?_eq_none_iff]at e;subst e;simp at h
 |some x=>rw[List.getLastD_eq_getLast?,e];rfl
theorem Zeq{k v:Qi}{l:List (k.El×v.El)}{j:Nat}(h:j<l.length):(Zl k v 0 l).find? (fun e=>Nat.beq e.2.2 j)=some (k.Q8 l[j].1,v.raw l[j].2,j):=by
 rw[List.find?_eq_some_iff_getElem];have hg:∀i (hi:i<l.length),(Zl k v 0 l)[i]? =some (k.Q8 l[i].1,v.raw l[i].2,i):=fun i hi=>by rw[X3,List.getElem?_eq_getElem hi];simp
 have hl:j<(Zl k v 0 l).length:=by rw[Wq];exact h
 refine⟨Nat.beq_refl j,j,hl,?_,fun i hi=>?_⟩
 ·have:=hg j h;rw[List.getElem?_eq_getElem hl]at this;exact Option.some.inj this
 ·have hi':i<l.length:=by omega
  have:=hg i hi';have hil:i<(Zl k v 0 l).length:=by rw[Wq];exact hi'
  rw[List.getElem?_eq_getElem hil]at this;rw[Option.some.inj this];show(!Nat.beq i j)=true;rw[Bool.not_eq_true'];cases he:Nat.beq i j with
  |false=>rfl
  |true=>have:=Nat.eq_of_beq_eq_true he;omega
def Qg0(H:List Qa)(x:SV):Qn:=
 match x with
 |.ptr s 0 0 0=>match H[s]? with
  |some (.mit (some m) c seen)=>match H[m]? with
   |some (.tmap k v l)=>match k.scalar with
    |true=>.need (decide (c=l.length)) <| .need (decide (0<seen.length)) <| .need (decide (Ws seen<l.length)) <| .ok (.tup [k.raw (l.getD (Ws seen) (k.Zq,v.Zq)).1,v.raw (l.getD (Ws seen) (k.Zq,v.Zq)).2])
    |false=>.fail
   |_=>Ki H x
  |_=>Ki H x
 |_=>Ki H x
theorem Zlz{P:Program}{M:Qc}{ρ:Env}{H:List Qa}{w:World}{K:Qr}(hm:Mem M ρ H w){x:SV}{v:Value}(hx:Qd M ρ v x)(h:(Qg0 H x).holds H K):Qv P (Instr.entry v) M ρ H w K:=by
 unfold Qg0 at h;split at h
 ·rename_i s;split at h
  ·rename_i m c seen ho;split at h
   ·rename_i k va l hl;split at h
    ·rename_i hks;obtain⟨hc,hs,hlt,h⟩:=h;have hc:=of_decide_eq_true hc;have hs:=of_decide_eq_true hs;have hlt:=of_decide_eq_true hlt;rw[List.getD_eq_getElem?_getD,List.getElem?_eq_getElem hlt]at h;have h:K (.tup [k.raw l[Ws seen].1,va.raw l[Ws seen].2]) H [] []:=h;have h0:(Ki H (.ptr s 0 0 0)).holds H fun x' H' t g=>H'=H∧t=[]∧g=[]∧x'=.tup [.lit (k.Q8 l[Ws seen].1),va.raw l[Ws seen].2]:=by unfold Ki;simp only[ho,hl,Qa.Qcp,Zly hs,Zeq hlt];exact⟨by rw[hc];exact Nat.beq_refl _,rfl,rfl,rfl,rfl⟩
     obtain⟨u,w',hr,y,H',t,g,M',ρ',⟨rfl,rfl,rfl,rfl⟩,hrep,hm',hf⟩:=Qdm (P:=P) hm hx h0;refine⟨u,w',hr,_,_,_,_,M',ρ',h,?_,hm',hf⟩;cases hrep with
     |tup cs _ hlen hrep=>
      refine .tup cs _ hlen fun i a b ha hb=>?_;match i with
      |0=>simp only[List.getElem?_cons_zero,Option.some.injEq]at hb;subst hb;have:=(hrep 0 a _ ha rfl).Q0;subst this;exact Qfs hks _
      |1=>simp only[List.getElem?_cons_succ,List.getElem?_cons_zero,Option.some.injEq]at hb;subst hb;exact hrep 1 a _ ha rfl
      |i+2=>simp at hb
    ·exact h.elim
   ·exact Qdm hm hx h
  ·exact Qdm hm hx h
 ·exact Qdm hm hx h
end Go.Sx
