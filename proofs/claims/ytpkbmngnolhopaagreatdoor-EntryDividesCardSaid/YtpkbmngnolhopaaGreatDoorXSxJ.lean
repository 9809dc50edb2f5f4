/- Part J of the own logic: one operation. Part K of the own logic: an operation in a state; regions in the order of the text. And further parts. -/
import Derived.Test.YtpkbmngnolhopaaGreatDoorXSxI
import Derived.Orders
import Derived.IntWalk
set_option linter.unusedVariables false
set_option linter.unusedSimpArgs false
set_option linter.unnecessarySimpa false
namespace Go.Sx
open Go
def Yp(P:Program)(S:Sem Next)(M:Qc)(ρ:Env)(H:List Qa)(w:World)(K:Qn):Prop:=
 ∃v w',(S.run P w=.ok (.value v) w'∨(S.run P w=.ok .skip w'∧v=undef))∧∃x H' tch fg M' ρ',K x H' tch fg∧Qd M' ρ' v x∧Mem M' ρ' H' w'∧Fr M ρ H w M' ρ' H' w' H.length tch fg
theorem Qq.toN{P:Program}{S:Sem Value}{M:Qc}{ρ:Env}{H:List Qa}{w:World}{K:Qn}(h:Qq P S M ρ H w K):Yp P (do pure (.value (←S))) M ρ H w K:=by obtain⟨v,w',hr,rest⟩:=h;exact⟨v,w',.inl (by simp[hr]),rest⟩
theorem K8.toN{P:Program}{S:Sem Unit}{M:Qc}{ρ:Env}{H:List Qa}{w:World}{K:Qn}(h:K8 P S M ρ H w K):Yp P (do S;pure .skip) M ρ H w K:=by obtain⟨w',hr,x,H',t,g,M',ρ',hk,rfl,m,f⟩:=h;exact⟨undef,w',.inr ⟨by simp[hr],rfl⟩,.any,H',t,g,M',ρ',hk,.any _,m,f⟩
theorem Yp.same{P:Program}{S:Sem Next}{M:Qc}{ρ:Env}{H:List Qa}{w:World}{K:Qn}{v:Value}{x:SV}(hm:Mem M ρ H w)(hr:S.run P w=.ok (.value v) w)(hx:Qd M ρ v x)(hk:K x H [] []):Yp P S M ρ H w K:=
 ⟨v,w,.inl hr,x,H,[],[],M,ρ,hk,hx,hm,Fr.refl ..⟩
def SV.Qmr:SV→Value
 |.pv (.lit v)=>v
 |_=>undef
def SV.isLit:SV→Bool
 |.pv (.lit _)=>true
 |_=>false
theorem Qv3{M:Qc}{ρ:Env}{v:Value}{x:SV}(h:Qd M ρ v x)(hx:x.isLit=true):v=x.Qmr:=by
 match x,hx with
 |.pv (.lit u),_=>exact h.Q7
def Qrf:Op→Bool
 |.select ..=>true
 |_=>false
def J4(P:Program)(ev:Operand→SV)(o:Oper):Qj:=
 if(!Qrf o.op&&o.op.operands.all fun x=>(ev x).isLit)=true then match Yk P (execOp (fun x=>(ev x).Qmr) o)with
  |some (.value v)=>.ok (.lit v)
  |_=>.fail
 else .fail
theorem K4{P:Program}{M:Qc}{ρ:Env}{H:List Qa}{w:World}{K:Qn}{ev:Operand→SV}{va:Operand→Value}(hm:Mem M ρ H w)(hev:∀x,Qd M ρ (va x) (ev x)){o:Oper}
  (h:(J4 P ev o).holds H K):Yp P (execOp va o) M ρ H w K:=by
 unfold J4 at h;split at h
 ·rename_i hc;simp only[Bool.and_eq_true,Bool.not_eq_true']at hc;split at h
  ·rename_i v hv;have he:execOp va o=execOp (fun x=>(ev x).Qmr) o:=by refine execOp_congr o (fun cs b hsel=>by rw[hsel]at hc;simp[Qrf]at hc) fun x hx=>?_;have:=Array.all_eq_true_iff_forall_mem.1 hc.2 x hx;exact Qv3 (hev x) this
   rw[he];exact Yp.same hm (Qb0 hv w) (.pv (.lit _)) h
  ·exact h.elim
 ·exact h.elim
def Qve(n:Int):Bool:=decide (-9223372036854775808≤n)&&decide (n≤9223372036854775807)
theorem Zba{n:Int}(h:Qve n=true):IntKind.i64.wrap n=n:=by simp only[Qve,Bool.and_eq_true,decide_eq_true_eq]at h;exact IntWalk.i64_in _ (by omega)
def w64(n:Int):Int:=IntKind.i64.wrap n
theorem Zh{n:Int}(h0:-9223372036854775808≤n)(h1:n≤9223372036854775807):w64 n=n:=IntWalk.i64_in _ (by omega)
theorem Qdc{P:Program}{t:TypeId}{i:TI}(h:Y5 P t i)(w:World):(isAgg t).run P w=.ok i.desc.isRow w:=by unfold isAgg;rw[Sem.run_bind,run_underlying h.und w];generalize i.desc=d;cases d<;>simp[TypeDesc.isRow]
def SV.cells?:SV→Option (List SV)
 |.agg l=>some l
 |.pv (.lit (.agg a))=>some (a.toList.map .lit)
 |_=>none
theorem Qeb{M:Qc}{ρ:Env}{v:Value}{x:SV}{l:List SV}(h:x.cells? =some l)(hr:Qd M ρ v x):
  ∃cs,v=.agg cs∧cs.size=l.length∧∀(i:Nat) (v:Value) (x:SV),cs[i]? =some v→l[i]? =some x→Qd M ρ v x:=by
 unfold SV.cells? at h;split at h
 ·cases h;cases hr with
  |agg cs _ hl hr=>exact⟨cs,rfl,hl,hr⟩
 ·rename_i a;cases h;have:=hr.Q7;subst this;refine⟨a,rfl,by simp,fun i v x hv hx=>?_⟩;simp only[List.getElem?_map,Option.map_eq_some_iff]at hx;obtain⟨z,hz,rfl⟩:=hx;rw[Array.getElem?_toList,hv]at hz;cases hz;exact .pv (.lit _)
 ·cases h
def partOf(tab:Qk)(t:Nat)(l:List SV)(off:Nat):Option SV:=match tab.lookup t with
 |none=>none
 |some i=>match i.desc.isRow with
  |true=>match Nat.ble (off+i.size) l.length with
   |true=>some (.Y3 ((l.drop off).take i.size))
   |false=>none
  |false=>l[off]?
theorem Qkd{P:Program}{tab:Qk}(htab:Qx P tab){M:Qc}{ρ:Env}(w:World){t off:Nat}{cs:Array Value}{l:List SV}{x:SV}(hl:cs.size=l.length)
  (hr:∀(i:Nat) (v:Value) (x:SV),cs[i]? =some v→l[i]? =some x→Qd M ρ v x) (h:partOf tab t l off=some x):∃v,(part t cs off).run P w=.ok v w∧Qd M ρ v x:=by
 unfold partOf at h;split at h
 ·cases h
 ·rename_i i hi;have ht:=htab.get hi;obtain⟨inf,hinf,i1,_⟩:=ht.inf;split at h
  ·rename_i hd;split at h
   ·rename_i hle;have hle:=Nat.le_of_ble_eq_true hle;cases h;refine⟨.agg (cs.extract off (off+i.size)),by simp[part,Qdc ht,hd,sizeOf,typeInfo,hinf,i1],?_⟩;have:=Qd.Y3 (M:=M) (ρ:=ρ) (cs:=(cs.extract off (off+i.size)).toList) (l:=(l.drop off).take i.size) (by simp;omega) (fun k v x hv hx=>by
     rw[List.getElem?_take]at hx;split at hx
     ·rename_i hk;rw[List.getElem?_drop]at hx;rw[Array.getElem?_toList,Array.getElem?_extract]at hv;split at hv
      ·exact hr _ v x hv hx
      ·cases hv
     ·cases hx)
    rwa[Array.toArray_toList]at this
   ·cases h
  ·rename_i hd;have hlt:off<cs.size:=by have:=(List.getElem?_eq_some_iff.1 h).1;omega
   exact⟨cs[off],by simp[part,Qdc ht,hd,hlt],hr off _ _ (by simp[hlt]) h⟩
def Qud(d:TypeDesc)(x y:SV):Option Bool:=match d,x,y with
 |.bool,.pv (.lit (.bool a)),.pv (.lit (.bool b))=>some (a==b)
 |.int _,.pv (.lit (.int k a)),.pv (.lit (.int k' b))=>match decide (k=k')with
  |true=>some (decide (a=b))
  |false=>none
 |.string,.pv (.lit (.string a)),.pv (.lit (.string b))=>some (a==b)
 |_,_,_=>none
def Qc4(eq:Nat→SV→SV→Option Bool)(tab:Qk)(xs ys:List SV):List Field→Option Bool
 |[]=>some true
 |f::fs=>match decide (f.name= "_")with
  |true=>Qc4 eq tab xs ys fs
  |false=>match partOf tab f.type xs f.offset with
   |none=>none
   |some a=>match partOf tab f.type ys f.offset with
    |none=>none
    |some b=>match eq f.type a b with
     |none=>none
     |some r=>match Qc4 eq tab xs ys fs with
      |none=>none
      |some r'=>some (r&&r')
def Qfs(eq:Nat→SV→SV→Option Bool)(tab:Qk)(xs ys:List SV)(e sz:Nat):Nat→Nat→Option Bool
 |_,0=>some true
 |i,k+1=>match partOf tab e xs (i*sz)with
  |none=>none
  |some a=>match partOf tab e ys (i*sz)with
   |none=>none
   |some b=>match eq e a b with
    |none=>none
    |some r=>match Qfs eq tab xs ys e sz (i+1) k with
     |none=>none
     |some r'=>some (r&&r')
def eqV(P:Program)(tab:Qk):Nat→Nat→SV→SV→Option Bool
 |0,_,_,_=>none
 |n+1,t,x,y=>match tab.lookup t with
  |none=>none
  |some i=>match i.desc with
   |.struct fields=>match P.stoodInHeld t with
    |true=>none
    |false=>match x.cells? with
     |none=>none
     |some xs=>match y.cells? with
      |none=>none
      |some ys=>Qc4 (eqV P tab n) tab xs ys fields.toList
   |.array len e=>match tab.lookup e with
    |none=>none
    |some ie=>match x.cells? with
     |none=>none
     |some xs=>match y.cells? with
      |none=>none
      |some ys=>Qfs (eqV P tab n) tab xs ys e ie.size 0 len
   |d=>Qud d x y
theorem Qrl{P:Program}{tab:Qk}(htab:Qx P tab){M:Qc}{ρ:Env}(w:World){eq:Nat→SV→SV→Option Bool}{E:Nat→Value→Value→Sem Bool}
  (hE:∀t x y vx vy b,eq t x y=some b→Qd M ρ vx x→Qd M ρ vy y→(E t vx vy).run P w=.ok b w)
  {cx cy:Array Value} {xs ys:List SV} (lx:cx.size=xs.length) (ly:cy.size=ys.length)
  (rx:∀(i:Nat) (v:Value) (x:SV),cx[i]? =some v→xs[i]? =some x→Qd M ρ v x) (ry:∀(i:Nat) (v:Value) (x:SV),cy[i]? =some v→ys[i]? =some x→Qd M ρ v x):
  ∀(fl:List Field) (b:Bool),Qc4 eq tab xs ys fl=some b→
  Sem.run P (forIn fl ((none,()):Option Bool×Unit) fun f __s=>
      if f.name= "_" then pure (ForInStep.yield (none,()))
      else do
       let a ←part f.type cx f.offset;let c ←part f.type cy f.offset;let r ←E f.type a c
       if r=false then pure (ForInStep.done (some false,()))else pure (ForInStep.yield (none,()))) w=.ok (if b then(none,())else(some false,())) w
 |[],b,h=>by simp[Qc4]at h;subst h;simp
 |f::fs,b,h=>by
  rw[List.forIn_cons];simp only[Qc4]at h;split at h
  ·rename_i hn;have hn:=of_decide_eq_true hn;simp only[hn,if_true,Sem.run_bind,Sem.run_pure,Result.andThen_ok];exact Qrl htab w hE lx ly rx ry fs b h
  ·rename_i hn;have hn:=of_decide_eq_false hn;split at h
   ·cases h
   ·rename_i a ha;split at h
    ·cases h
    ·rename_i c hc;split at h
     ·cases h
     ·rename_i r hr;split at h
      ·cases h
      ·rename_i r' hr';cases h;obtain⟨va,p1,p2⟩:=Qkd htab w lx rx ha;obtain⟨vc,p3,p4⟩:=Qkd htab w ly ry hc;have p5:=hE _ _ _ _ _ _ hr p2 p4;have ih:=Qrl htab w hE lx ly rx ry fs r' hr';simp only[hn,if_false,Sem.run_bind,p1,p3,p5,Result.andThen_ok];cases r with
       |false=>simp
       |true=>simp only[Bool.true_eq_false,if_false,Sem.run_pure,Result.andThen_ok,Bool.true_and];exact ih
theorem Qs8{P:Program}{tab:Qk}(htab:Qx P tab){M:Qc}{ρ:Env}(w:World){eq:Nat→SV→SV→Option Bool}{E:Nat→Value→Value→Sem Bool}
  (hE:∀t x y vx vy b,eq t x y=some b→Qd M ρ vx x→Qd M ρ vy y→(E t vx vy).run P w=.ok b w)
  {cx cy:Array Value} {xs ys:List SV} (lx:cx.size=xs.length) (ly:cy.size=ys.length)
  (rx:∀(i:Nat) (v:Value) (x:SV),cx[i]? =some v→xs[i]? =some x→Qd M ρ v x) (ry:∀(i:Nat) (v:Value) (x:SV),cy[i]? =some v→ys[i]? =some x→Qd M ρ v x) {e sz:Nat}:
  ∀(k i:Nat) (b:Bool),Qfs eq tab xs ys e sz i k=some b→
  Sem.run P (forIn (List.range' i k) ((none,()):Option Bool×Unit) fun i __s=>do
       let a ←part e cx (i*sz);let c ←part e cy (i*sz);let r ←E e a c
       if r=false then pure (ForInStep.done (some false,()))else pure (ForInStep.yield (none,()))) w=.ok (if b then(none,())else(some false,())) w
 |0,i,b,h=>by simp[Qfs]at h;subst h;simp
 |k+1,i,b,h=>by
  rw[List.range'_succ,List.forIn_cons];simp only[Qfs]at h;split at h
  ·cases h
  ·rename_i a ha;split at h
   ·cases h
   ·rename_i c hc;split at h
    ·cases h
    ·rename_i r hr;split at h
     ·cases h
     ·rename_i r' hr';cases h;obtain⟨va,p1,p2⟩:=Qkd htab w lx rx ha;obtain⟨vc,p3,p4⟩:=Qkd htab w ly ry hc;have p5:=hE _ _ _ _ _ _ hr p2 p4;have ih:=Qs8 htab w hE lx ly rx ry k (i+1) r' hr';simp only[Sem.run_bind,p1,p3,p5,Result.andThen_ok];cases r with
      |false=>simp
      |true=>simp only[Bool.true_eq_false,if_false,Sem.run_pure,Result.andThen_ok,Bool.true_and];exact ih
theorem Qrq{P:Program}{tab:Qk}(htab:Qx P tab){M:Qc}{ρ:Env}(w:World):∀(n:Nat) (t:Nat) (x y:SV) (vx vy:Value) (b:Bool),eqV P tab n t x y=some b→Qd M ρ vx x→Qd M ρ vy y→
  ∀d,n≤d→(Op.equalIn d t vx vy).run P w=.ok b w
 |0,t,x,y,vx,vy,b,h,hx,hy=>by simp[eqV]at h
 |n+1,t,x,y,vx,vy,b,h,hx,hy=>by
  intro d hd;obtain⟨d,rfl⟩:∃e,d=e+1:=⟨d-1,by omega⟩;unfold eqV at h;split at h
  ·cases h
  ·rename_i i hi;have ht:=htab.get hi;split at h
   ·rename_i fields hdesc;split at h
    ·cases h
    ·rename_i hst;split at h
     ·cases h
     ·rename_i xs hxs;split at h
      ·cases h
      ·rename_i ys hys;obtain⟨cx,rfl,lx,rx⟩:=Qeb hxs hx;obtain⟨cy,rfl,ly,ry⟩:=Qeb hys hy;have hu:P.underlying t=some (.struct fields):=by rw[ht.und,hdesc]
       unfold Op.equalIn;simp only[Sem.run_bind,run_underlying hu,Result.andThen_ok];simp[hst];rw[←Array.forIn_toList];generalize fields.toList=fl at h;rw[Qrl htab w (fun t x y vx vy b h hx hy=>Qrq htab w n t x y vx vy b h hx hy d (by omega)) lx ly rx ry fl b h];cases b<;>simp
   ·rename_i len e hdesc;split at h
    ·cases h
    ·rename_i ie hie;split at h
     ·cases h
     ·rename_i xs hxs;split at h
      ·cases h
      ·rename_i ys hys;obtain⟨cx,rfl,lx,rx⟩:=Qeb hxs hx;obtain⟨cy,rfl,ly,ry⟩:=Qeb hys hy;have hu:P.underlying t=some (.array len e):=by rw[ht.und,hdesc]
       obtain⟨inf,hinf,i1,_⟩:=(htab.get hie).inf;have hsz:(Go.sizeOf e).run P w=.ok ie.size w:=by simp[Go.sizeOf,typeInfo,hinf,i1]
       unfold Op.equalIn;simp only[Sem.run_bind,run_underlying hu,Result.andThen_ok,hsz];simp;rw[Qs8 htab w (fun t x y vx vy b h hx hy=>Qrq htab w n t x y vx vy b h hx hy d (by omega)) lx ly rx ry len 0 b h];cases b<;>simp
   ·rename_i hns;unfold Qud at h;split at h
    ·rename_i hdesc;cases h;have ex:=hx.Q7;have ey:=hy.Q7;subst ex;subst ey;have hu:=ht.und;rw[hdesc]at hu;unfold Op.equalIn;simp[Sem.run_bind,run_underlying hu]
    ·rename_i hdesc;split at h
     ·rename_i hk;cases of_decide_eq_true hk;cases h;have ex:=hx.Q7;have ey:=hy.Q7;subst ex;subst ey;have hu:=ht.und;rw[hdesc]at hu;unfold Op.equalIn;simp[Sem.run_bind,run_underlying hu];rfl
     ·cases h
    ·rename_i hdesc;cases h;have ex:=hx.Q7;have ey:=hy.Q7;subst ex;subst ey;have hu:=ht.und;rw[hdesc]at hu;unfold Op.equalIn;simp[Sem.run_bind,run_underlying hu]
    ·cases h
def sEq(P:Program)(tab:Qk)(neg:Bool)(t:Nat)(a b:SV):Qj:=match P.eqGuardType P.depth t with
 |true=>.fail
 |false=>match eqV P tab 8 t a b with
  |none=>.fail
  |some r=>match neg with
   |true=>.ok (.lit (.bool (!r)))
   |false=>.ok (.lit (.bool r))
def Qlj:Bool→BinOp
 |true=>.neq
 |false=>.eql
theorem Zas{P:Program}{tab:Qk}(htab:Qx P tab){M:Qc}{ρ:Env}{neg:Bool}{t:Nat}{a b:SV}{va vb:Value}(ha:Qd M ρ va a)(hb:Qd M ρ vb b){H:List Qa}{K:Qn}
  (hca:a.cells?.isSome=true) (hcb:b.cells?.isSome=true) (h:(sEq P tab neg t a b).holds H K):
  ∃v:Value,K (.pv (.lit v)) H [] []∧∀(w:World) (x y:Operand),(do eqGuard (Qlj neg) t x y va vb;binOp (Qlj neg) t va vb:Sem Value).run P w=.ok v w:=by
 unfold sEq at h;split at h
 ·exact h.elim
 ·rename_i hg;split at h
  ·exact h.elim
  ·rename_i r hr;obtain⟨l,hl⟩:=Option.isSome_iff_exists.1 hca;obtain⟨m,hm⟩:=Option.isSome_iff_exists.1 hcb;have h:K (.pv (.lit (.bool (match neg with|true=>!r|false=>r)))) H [] []:=by cases neg<;>exact h
   refine⟨_,h,fun w x y=>?_⟩;have e:=Qrq htab (M:=M) (ρ:=ρ) w 8 t a b va vb r hr ha hb Op.maxDepth (by decide);obtain⟨ca,rfl,_⟩:=Qeb hl ha;obtain⟨cb,rfl,_⟩:=Qeb hm hb;cases neg<;>simp[Qlj,eqGuard,hg,binOp,Op.equal,e]
def Qrb:BinOp→SV→SV→Option Bool
 |.eql,.agg _,_=>some false
 |.eql,_,.agg _=>some false
 |.eql,.pv (.lit (.agg _)),.pv (.lit (.agg _))=>some false
 |.neq,.agg _,_=>some true
 |.neq,_,.agg _=>some true
 |.neq,.pv (.lit (.agg _)),.pv (.lit (.agg _))=>some true
 |_,_,_=>none
theorem Qto{op:BinOp}{a b:SV}{neg:Bool}(h:Qrb op a b=some neg):op=Qlj neg:=by unfold Qrb at h;split at h<;>first|(cases h;rfl)|cases h
def Qow(op:BinOp)(a b:SV):Option Bool:=match a,b with
 |.pv (.lit (.int k x)),.pv (.lit (.int k' y))=>match decide (k=k')with
  |false=>none
  |true=>match op with
   |.eql=>some (decide (x=y))
   |.neq=>some (!decide (x=y))
   |.lss=>some (decide (x<y))
   |.leq=>some (decide (x≤y))
   |.gtr=>some (decide (y<x))
   |.geq=>some (decide (y≤x))
   |_=>none
 |_,_=>none
def Qfw(P:Program)(tab:Qk)(ev:Operand→SV)(o:Oper)(op:BinOp)(t:Nat)(a b:SV):Qj:=
 match op,a,b with
 |.add,.pv (.lit (.int .i64 x)),.pv (.lit (.int .i64 y))=>.ok (.lit (.int .i64 (w64 (x+y))))
 |.sub,.pv (.lit (.int .i64 x)),.pv (.lit (.int .i64 y))=>.ok (.lit (.int .i64 (w64 (x-y))))
 |.mul,.pv (.lit (.int .i64 x)),.pv (.lit (.int .i64 y))=>.ok (.lit (.int .i64 (w64 (x*y))))
 |.quo,.pv (.lit (.int .i64 x)),.pv (.lit (.int .i64 y))=>.need (decide (y≠0)) (.ok (.lit (.int .i64 (w64 (x.tdiv y)))))
 |.rem,.pv (.lit (.int .i64 x)),.pv (.lit (.int .i64 y))=>.need (decide (y≠0)) (.ok (.lit (.int .i64 (x.tmod y))))
 |.shl,.pv (.lit (.int .i64 x)),.pv (.lit (.int .i64 y))=>.need (decide (0≤y)) (.ok (.lit (.int .i64 (w64 (x*2 ^ min y.toNat 64)))))
 |.shr,.pv (.lit (.int .i64 x)),.pv (.lit (.int .i64 y))=>.need (decide (0≤y)) (.ok (.lit (.int .i64 (x.fdiv (2 ^ min y.toNat 64)))))
 |.eql,.pv (.lit (.int .i64 x)),.pv (.lit (.int .i64 y))=>.ok (.lit (.bool (decide (x=y))))
 |.neq,.pv (.lit (.int .i64 x)),.pv (.lit (.int .i64 y))=>.ok (.lit (.bool (!decide (x=y))))
 |.lss,.pv (.lit (.int .i64 x)),.pv (.lit (.int .i64 y))=>.ok (.lit (.bool (decide (x<y))))
 |.leq,.pv (.lit (.int .i64 x)),.pv (.lit (.int .i64 y))=>.ok (.lit (.bool (decide (x≤y))))
 |.gtr,.pv (.lit (.int .i64 x)),.pv (.lit (.int .i64 y))=>.ok (.lit (.bool (decide (y<x))))
 |.geq,.pv (.lit (.int .i64 x)),.pv (.lit (.int .i64 y))=>.ok (.lit (.bool (decide (y≤x))))
 |.eql,.pv (.lit (.string x)),.pv (.lit (.string y))=>.ok (.lit (.bool (Qe x y)))
 |.neq,.pv (.lit (.string x)),.pv (.lit (.string y))=>.ok (.lit (.bool (!Qe x y)))
 |.add,.pv (.lit (.string x)),.pv (.lit (.string y))=>.need (decide (((x.size+y.size:Nat):Int)≤IntKind.i64.max)) (.ok (.lit (.string (x++y))))
 |op,a,b=>match Qrb op a b with
  |some neg=>match a.cells?.isSome&&b.cells?.isSome with
   |true=>sEq P tab neg t a b
   |false=>.fail
  |none=>match Qow op a b with
   |some r=>.ok (.lit (.bool r))
   |none=>J4 P ev o
theorem Jv(P:Program)(w:World)(op:BinOp)(t:TypeId)(x y:Operand)(k k':IntKind)(a b:Int):(eqGuard op t x y (.int k a) (.int k' b)).run P w=.ok () w:=by unfold eqGuard;cases op<;>simp
theorem Qcz(P:Program)(w:World)(op:BinOp)(t:TypeId)(x y:Operand)(a b:ByteArray):(eqGuard op t x y (.string a) (.string b)).run P w=.ok () w:=by unfold eqGuard;cases op<;>simp
theorem Qvp{P:Program}{M:Qc}{ρ:Env}{op:BinOp}{t:Nat}{a b:SV}{va vb:Value}{r:Bool}(ha:Qd M ρ va a)(hb:Qd M ρ vb b)(h:Qow op a b=some r)(w:World)(x y:Operand):
  (do eqGuard op t x y va vb;binOp op t va vb:Sem Value).run P w=.ok (.bool r) w:=by
 unfold Qow at h;split at h
 ·split at h
  ·cases h
  ·rename_i hk;cases of_decide_eq_true hk;have ea:=ha.Q7;have eb:=hb.Q7;subst ea;subst eb;split at h<;>first
    | (cases h
       simp[Sem.run_bind,Jv,binOp,Op.intCmp,bne];done)
    | (cases h
       simp only[Sem.run_bind,Jv,Result.andThen_ok,binOp,Op.intCmp,ne_eq,not_true_eq_false,if_false];rfl)
    |cases h
 ·cases h
theorem Zi6{P:Program}{tab:Qk}(htab:Qx P tab){M:Qc}{ρ:Env}{H:List Qa}{w:World}{K:Qn}{ev:Operand→SV}{va:Operand→Value}(hm:Mem M ρ H w)(hev:∀x,Qd M ρ (va x) (ev x)){o:Oper}
  {op:BinOp} {t t':TypeId} {x y:Operand} (ho:o.op=.binOp op t x y t') (h:(Qfw P tab ev o op t (ev x) (ev y)).holds H K):Yp P (execOp va o) M ρ H w K:=by
 have hx:=hev x;have hy:=hev y;have exec:execOp va o=(do pure (.value (←(do eqGuard op t x y (va x) (va y);binOp op t (va x) (va y))))):=by simp[execOp,ho]
 unfold Qfw at h;split at h<;>first
  | (rename_i e1 e2
     rw[e1]at hx;rw[e2]at hy;have ex:=hx.Q7;have ey:=hy.Q7;rw[exec,ex,ey];simp only[Qj.holds]at h
     first
    | (refine Yp.same hm ?_ (.pv (.lit _)) h
       simp[Sem.run_bind,Jv,binOp,Op.intArith,w64];done)
    | (obtain ⟨hn,h⟩ := h
       first
      | (have hz := of_decide_eq_true hn
         refine Yp.same hm ?_ (.pv (.lit _)) h;simp[Sem.run_bind,Jv,binOp,Op.intDiv,hz,w64];done)
      | (have hz := Int.not_lt.2 (of_decide_eq_true hn)
         refine Yp.same hm ?_ (.pv (.lit _)) h;simp only[Sem.run_bind,Jv,Result.andThen_ok,binOp,Op.shift,if_neg hz,Sem.run_pure];rfl)
      | (have hz := Int.not_lt.2 (of_decide_eq_true hn)
         refine Yp.same hm ?_ (.pv (.lit _)) h;simp only[Sem.run_bind,Qcz,Result.andThen_ok,binOp,Op.stringOp,gt_iff_lt,if_neg hz,Sem.run_pure];done)
      | (obtain ⟨hn2,h⟩ := h
         have hz:=of_decide_eq_true hn;refine Yp.same hm ?_ (.pv (.lit _)) h;simp[Sem.run_bind,Jv,binOp,Op.intDiv,hz,Zba hn2];done))
    | (refine Yp.same hm ?_ (.pv (.lit _)) h
       simp[Sem.run_bind,Jv,Qcz,binOp,Op.intCmp,Op.stringOp,bne];done)
    | (refine Yp.same hm ?_ (.pv (.lit _)) h
       simp only[Sem.run_bind,Jv,Qcz,Result.andThen_ok,binOp,Op.intCmp,Op.stringOp,Quk];rfl))
  | (split at h
     · rename_i neg hk
       split at h
       · rename_i hc
         simp only[Bool.and_eq_true]at hc;obtain⟨v,hk2,hrun⟩:=Zas htab hx hy hc.1 hc.2 h;have ho:=Qto hk;rw[exec,ho];exact Yp.same hm (by simp only[Sem.run_bind]at hrun⊢;simp[hrun]) (.pv (.lit _)) hk2
       · exact h.elim
     · split at h
       · rename_i r hr
         have hrun:=Qvp (P:=P) (t:=t) hx hy hr;rw[exec];exact Yp.same hm (by have:=hrun w x y;simp only[Sem.run_bind]at this⊢;simp[this]) (.pv (.lit _)) h
       · exact K4 hm hev h)
def Qdk(neg:Bool):SV→Option Qj
 |.pv (.tsl row l)=>some (.split (decide (l.length=0)) (.both (.ok (.lit (.bool true))) (.ok (.lit (.bool false)))) (.ok (.lit (.bool neg))))
 |.sl s sz st n=>some (.split (decide (n=0)) (.both (.ok (.lit (.bool true))) (.ok (.lit (.bool false)))) (.ok (.lit (.bool neg))))
 |_=>none
def Qpw(tab:Qk)(op:BinOp)(t:Nat)(a b:SV):Option Qj:=match b with
 |.pv (.lit (.slice none 0 0))=>match tab.lookup t with
  |some {desc:=.slice e,..}=>match op with
   |.eql=>Qdk false a
   |.neq=>Qdk true a
   |_=>none
  |_=>none
 |_=>none
theorem Zer{P:Program}{t e:Nat}(hu:P.underlying t=some (.slice e))(a:Option Addr)(n c:Nat)(w:World):(Op.equal t (.slice a n c) (.slice none 0 0)).run P w=.ok a.isNone w:=by
 have key:∀d:Nat,(Op.equalIn (d+1) t (.slice a n c) (.slice none 0 0)).run P w=.ok a.isNone w:=fun d=>by unfold Op.equalIn;cases a<;>simp[Sem.run_bind,run_underlying hu]
 exact key (Op.maxDepth-1)
theorem Qu8{P:Program}{t e:Nat}(hu:P.underlying t=some (.slice e))(a:Option Addr)(n c:Nat)(w:World)(x y:Operand):
  (do eqGuard .eql t x y (.slice a n c) (.slice none 0 0);binOp .eql t (.slice a n c) (.slice none 0 0):Sem Value).run P w=.ok (.bool a.isNone) w∧
  (do eqGuard .neq t x y (.slice a n c) (.slice none 0 0);binOp .neq t (.slice a n c) (.slice none 0 0):Sem Value).run P w=.ok (.bool (!a.isNone)) w:=by
 constructor<;>simp[Sem.run_bind,eqGuard,binOp,Zer hu]
theorem Qtf{M:Qc}{ρ:Env}{H:List Qa}{K:Qn}{neg:Bool}{a:SV}{v:Value}{r:Qj}(ha:Qd M ρ v a)(hr:Qdk neg a=some r)(h:r.holds H K):
  ∃ad n c,v=.slice ad n c∧∀b:Bool,(b=true→ad.isNone≠neg)→(b=false→ad.isNone=neg)→True:=by
 unfold Qdk at hr;split at hr
 ·cases ha with
  |pv hp=>cases hp with
   |tsl _ _ hp=>obtain⟨ad,n,c,rfl⟩:=hp.Qmp;exact⟨ad,n,c,rfl,fun _ _ _=>trivial⟩
 ·cases ha with
  |sl _ _ _ _ c k p hp hk hc hn h6=>exact⟨_,_,_,rfl,fun _ _ _=>trivial⟩
  |slz _ _ _ ad=>exact⟨_,_,_,rfl,fun _ _ _=>trivial⟩
 ·cases hr
theorem Qvk{M:Qc}{ρ:Env}{H:List Qa}{K:Qn}{neg:Bool}{a:SV}{r:Qj}{ad:Option Addr}{n c:Nat}(ha:Qd M ρ (.slice ad n c) a)(hr:Qdk neg a=some r)(h:r.holds H K):K (.lit (.bool (xor neg ad.isNone))) H [] []:=by
 have both:∀b:Bool,(K (.lit (.bool true)) H [] []∧K (.lit (.bool false)) H [] [])→K (.lit (.bool b)) H [] []:=fun b h=>by cases b;exact h.2;exact h.1
 unfold Qdk at hr;split at hr
 ·rename_i row l;cases hr;obtain⟨h1,h2⟩:=h;by_cases e:l.length=0
  ·exact both _ (h1 (decide_eq_true e))
  ·have hk:=h2 (decide_eq_false e);have hs:ad.isNone=false:=by
    cases ha with
    |pv hp=>cases hp with
     |tsl _ _ hp=>
      have hll:(Qp row l).length=l.length:=by simp[Qp]
      generalize hq:Qp row l=q at hp hll;cases hp with
      |rnil _=>simp at hll;omega
      |remp a c _=>simp at hll;omega
      |rsl b off c _ n _ hn hc h0 h1 h2=>rfl
   rw[hs,Bool.xor_false];exact hk
 ·rename_i s sz st m;cases hr;obtain⟨h1,h2⟩:=h;by_cases e:m=0
  ·exact both _ (h1 (decide_eq_true e))
  ·have hk:=h2 (decide_eq_false e);have hs:ad.isNone=false:=by
    cases ha with
    |sl _ _ _ _ c k p hp hk hc hn h6=>rfl
    |slz _ _ _ ad=>exact absurd rfl e
   rw[hs,Bool.xor_false];exact hk
 ·cases hr
theorem Qt3{P:Program}{tab:Qk}(htab:Qx P tab){M:Qc}{ρ:Env}{H:List Qa}{K:Qn}{op:BinOp}{t:Nat}{a b:SV}{va vb:Value}{r:Qj}(ha:Qd M ρ va a)(hb:Qd M ρ vb b)(hr:Qpw tab op t a b=some r)(h:r.holds H K):
  ∃q:Bool,(∀(w:World) (x y:Operand),(do eqGuard op t x y va vb;binOp op t va vb:Sem Value).run P w=.ok (.bool q) w)∧K (.lit (.bool q)) H [] []:=by
 unfold Qpw at hr;split at hr
 ·have eb:=hb.Q7;subst eb;split at hr
  ·rename_i e sz' by' zr rw' hte;have hu:P.underlying t=some (.slice e):=(htab.get hte).und;split at hr
   ·obtain⟨ad,n,c,rfl,_⟩:=Qtf ha hr h;have:=Qvk ha hr h;rw[Bool.false_xor]at this;exact⟨_,fun w x y=>(Qu8 hu ad n c w x y).1,this⟩
   ·obtain⟨ad,n,c,rfl,_⟩:=Qtf ha hr h;have:=Qvk ha hr h;rw[Bool.true_xor]at this;exact⟨_,fun w x y=>(Qu8 hu ad n c w x y).2,this⟩
   ·cases hr
  ·cases hr
 ·cases hr
def Qoj(t:TypeId):Sem (Array (Nat×Nat)):=do
 match←underlying t with
 |.struct fields=>fields.mapM fun f=>do pure (f.offset,←sizeOf f.type)
 |_=>stuck ""
def Qfq(P:Program)(tab:Qk)(t:Nat)(parts:List (Nat×SV)):Qj:=
 match tab.lookup t with
 |none=>.fail
 |some i=>match i.desc with
  |.struct _=>match Yk P (Qoj t)with
   |none=>.fail
   |some places=>match Kh (places[·]?) (i.zero.cells.toList.map SV.lit) parts with
    |none=>.fail
    |some l=>.ok (.Y3 l)
  |.array _ e=>match tab.lookup e with
   |none=>.fail
   |some ie=>match Kh (fun k=>some (k*ie.size,ie.size)) (i.zero.cells.toList.map SV.lit) parts with
    |none=>.fail
    |some l=>.ok (.Y3 l)
  |_=>.fail
theorem Qiy{M:Qc}{ρ:Env}{P:Program}{t:TypeId}{i:TI}(h:Y5 P t i):Qd7 M ρ i.zero.cells (i.zero.cells.toList.map SV.lit):=
 ⟨by simp,fun k u y hu hy=>by simp only[List.getElem?_map,Option.map_eq_some_iff]at hy;obtain⟨z,hz,rfl⟩:=hy;rw[Array.getElem?_toList,hu]at hz;cases hz;exact .pv (.lit _),fun k u hu=>(Array.all_eq_true_iff_forall_mem.1 h.zon) u (Array.mem_of_getElem? hu)⟩
theorem Zu7{P:Program}{tab:Qk}(htab:Qx P tab){M:Qc}{ρ:Env}{H:List Qa}{w:World}{K:Qn}(hm:Mem M ρ H w){t:Nat}{vp:Array (Nat×Value)}{sp:List (Nat×SV)}
  (hl:vp.size=sp.length) (hp:∀(k:Nat) (a:Nat×Value) (b:Nat×SV),vp.toList[k]? =some a→sp[k]? =some b→a.1=b.1∧Qd M ρ a.2 b.2)
  (h:(Qfq P tab t sp).holds H K):Qq P (Instr.build t vp) M ρ H w K:=by
 unfold Qfq at h;split at h
 ·exact h.elim
 ·rename_i i hi;have ht:=htab.get hi;have hz:=Vy ht w;split at h
  ·rename_i fields hd;have hu:P.underlying t=some (.struct fields):=by rw[ht.und,hd]
   split at h
   ·exact h.elim
   ·rename_i places hpl;split at h
    ·exact h.elim
    ·rename_i l hf;obtain⟨cs',g1,g2⟩:=Qco (M:=M) (ρ:=ρ) (Qiy ht) (by simpa using hl) hp hf;have hrun:=Qb0 hpl w;simp only[Qoj,Sem.run_bind,run_underlying hu,Result.andThen_ok]at hrun;refine Qq.same hm (v:=.agg cs') ?_ ?_ h
     ·simp only[Instr.build,Sem.run_bind,hz,Result.andThen_ok,run_underlying hu,hrun];rw[g1];rfl
     ·have:=Qd.Y3 (M:=M) (ρ:=ρ) (cs:=cs'.toList) (l:=l) (by simpa using g2.sz) (fun k v x hv hx=>g2.rep k v x (by rw[←Array.getElem?_toList];exact hv) hx);simpa using this
  ·rename_i n e hd;have hu:P.underlying t=some (.array n e):=by rw[ht.und,hd]
   split at h
   ·exact h.elim
   ·rename_i ie hie;obtain⟨inf,hinf,i1,_⟩:=(htab.get hie).inf;split at h
    ·exact h.elim
    ·rename_i l hf;obtain⟨cs',g1,g2⟩:=Qco (M:=M) (ρ:=ρ) (Qiy ht) (by simpa using hl) hp hf;refine Qq.same hm (v:=.agg cs') ?_ ?_ h
     ·simp only[Instr.build,Sem.run_bind,hz,Result.andThen_ok,run_underlying hu,sizeOf,typeInfo,run_program,hinf,Sem.run_pure,i1];rw[g1];rfl
     ·have:=Qd.Y3 (M:=M) (ρ:=ρ) (cs:=cs'.toList) (l:=l) (by simpa using g2.sz) (fun k v x hv hx=>g2.rep k v x (by rw[←Array.getElem?_toList];exact hv) hx);simpa using this
  ·exact h.elim
def Qg7(tab:Qk)(t:Nat)(x:SV)(f:Nat):Qj:=
 match x,tab.lookup t with
 |.agg l,some {desc:=.struct fields,..}=>match fields[f]? with
  |none=>.fail
  |some fd=>match tab.lookup fd.type with
   |none=>.fail
   |some i=>if i.desc.isRow then .need (decide (fd.offset+i.size≤l.length)) (.ok (.Y3 ((l.drop fd.offset).take i.size)))else .need (decide (fd.offset<l.length)) (.ok (l.getD fd.offset .any))
 |_,_=>.fail
theorem Zjb{P:Program}{tab:Qk}(htab:Qx P tab){M:Qc}{ρ:Env}{H:List Qa}{w:World}{K:Qn}(hm:Mem M ρ H w){t f:Nat}{x:SV}{v:Value}(hx:Qd M ρ v x)
  (h:(Qg7 tab t x f).holds H K):Qq P (Instr.field t v f) M ρ H w K:=by
 unfold Qg7 at h;split at h
 ·rename_i l fields sz' by' zr rw' hte;have hu:P.underlying t=some (.struct fields):=(htab.get hte).und;cases hx with
  |agg cs _ hl hr=>
   split at h
   ·exact h.elim
   ·rename_i fd hfd;split at h
    ·exact h.elim
    ·rename_i i hi;have ht:=htab.get hi;obtain⟨inf,hinf,i1,_⟩:=ht.inf;split at h
     ·rename_i hd;simp only[Qj.holds,decide_eq_true_eq]at h;obtain⟨hle,h⟩:=h;refine Qq.same hm (v:=.agg (cs.extract fd.offset (fd.offset+i.size))) ?_ ?_ h
      ·simp[Instr.field,run_underlying hu,hfd,asAgg,part,Qdc ht,hd,sizeOf,typeInfo,hinf,i1]
      ·have:=Qd.Y3 (M:=M) (ρ:=ρ) (cs:=(cs.extract fd.offset (fd.offset+i.size)).toList) (l:=(l.drop fd.offset).take i.size) (by simp;omega) (fun k v x hv hx=>by
        rw[List.getElem?_take]at hx;split at hx
        ·rename_i hk;rw[List.getElem?_drop]at hx;rw[Array.getElem?_toList,Array.getElem?_extract]at hv;split at hv
         ·exact hr _ v x hv hx
         ·cases hv
        ·cases hx)
       rwa[Array.toArray_toList]at this
     ·rename_i hd;simp only[Qj.holds,decide_eq_true_eq]at h;obtain⟨hle,h⟩:=h;have hlt:fd.offset<cs.size:=by omega
      refine Qq.same hm (v:=cs[fd.offset]) ?_ ?_ h
      ·simp[Instr.field,run_underlying hu,hfd,asAgg,part,Qdc ht,hd,hlt]
      ·rw[List.getD_eq_getElem?_getD,List.getElem?_eq_getElem hle];exact hr fd.offset _ _ (by simp[hlt]) (by simp[hle])
 ·exact h.elim
def Qau(P:Program)(tab:Qk)(ev:Operand→SV)(o:Oper)(t:Nat)(x i:SV):Qj:=match x,i with
 |.pv (.lit (.string s)),.pv (.lit (.int _ n))=>match tab.lookup t with
  |some {desc:=.string,..}=>.need (decide (0≤n)) (.need (decide (n.toNat<s.size)) (.ok (.lit (.int .u8 ((s.get! n.toNat).toNat:Int)))))
  |_=>.fail
 |_,_=>J4 P ev o
theorem Qt7{P:Program}{tab:Qk}(htab:Qx P tab){ev:Operand→SV}{o:Oper}{t:Nat}{s:ByteArray}{k:IntKind}{n:Int}{H:List Qa}{K:Qn}
  (h:(Qau P tab ev o t (.pv (.lit (.string s))) (.pv (.lit (.int k n)))).holds H K):∃v:Value,K (.pv (.lit v)) H [] []∧∀w,(Instr.index t (.string s) (.int k n)).run P w=.ok v w:=by
 simp only[Qau]at h;split at h
 ·rename_i sz' by' zr rw' hte;have hu:P.underlying t=some .string:=(htab.get hte).und;obtain⟨h1,h2,h⟩:=h;have h1:=of_decide_eq_true h1;have h2:=of_decide_eq_true h2;refine⟨_,h,fun w=>?_⟩;have e:s.get! n.toNat=s[n.toNat]:=by show s.data[n.toNat]! =_;rw[getElem!_pos s.data n.toNat h2];rfl
  simp[Instr.index,asIntOf,run_underlying hu,h1,h2,e]
 ·exact h.elim
def sop(P:Program)(tab:Qk)(H:List Qa)(ev:Operand→SV)(o:Oper):Qj:=
 match o.op with
 |.move x=>.ok (ev x)
 |.assign x=>.ok (ev x)
 |.pick c a b=>match ev c with
  |.pv (.lit (.bool t))=>.split t (.ok (ev a)) (.ok (ev b))
  |_=>.fail
 |.alloc t=>Qnj tab H t
 |.box t x=>Qq6 tab H t (ev x)
 |.build t parts=>Qfq P tab t (parts.toList.map fun p=>(p.1,ev p.2))
 |.buildSlice t len parts=>Qon tab H t len (parts.toList.map fun p=>(p.1,ev p.2))
 |.load t a=>Qaf tab H t (ev a)
 |.store t a x=>Qqs tab H t (ev a) (ev x)
 |.nilCheck x=>match ev x with
  |.ptr s sz i j=>.ok (.ptr s sz i j)
  |.pv (.rptr sz r i j)=>.ok (.pv (.rptr sz r i j))
  |.mp s=>.ok (.mp s)
  |.fn (.func f) a b=>.ok (.fn (.func f) a b)
  |_=>J4 P ev o
 |.binOp op t x y _=>match Qpw tab op t (ev x) (ev y)with
  |some r=>r
  |none=>Qfw P tab ev o op t (ev x) (ev y)
 |.makeFunc fn a b=>.ok (.fn fn (a.toList.map ev) (b.toList.map ev))
 |.makeMap t r=>match r with
  |none=>Zai H
  |some _=>.fail
 |.makeSlice t l c=>Qni tab H t (ev l) (ev c)
 |.slice t x lo hi mx=>match mx with
  |none=>Qfz tab H t (ev x) (lo.map ev) (hi.map ev)
  |some m=>Qru tab t (ev x) (lo.map ev) (hi.map ev) (ev m)
 |.fieldAddr t x f=>Qeu tab t (ev x) f
 |.field t x f=>match ev x with
  |.agg l=>Qg7 tab t (.agg l) f
  |_=>J4 P ev o
 |.indexAddr t x ix=>Qg3 tab t (ev x) (ev ix)
 |.lookup t m k ok=>Qf6 P tab H t (ev m) (ev k) ok
 |.mapUpdate t m k x=>Qkb P tab H t (ev m) (ev k) (ev x)
 |.insert t m k x=>Qkb P tab H t (ev m) (ev k) (ev x)
 |.mapEntry t m k=>Qqz P tab H t (ev m) (ev k)
 |.entryStore _ m s x=>Qm7 H (ev m) (ev s) (ev x)
 |.range t x=>Qnf tab H t (ev x)
 |.next x isString=>if isString then Qrh H (ev x)else Qn9 H (ev x)
 |.entry x=>Qmw H (ev x)
 |.extract x i=>match ev x with
  |.tup l=>match l[i]? with
   |some y=>.ok y
   |none=>.fail
  |_=>J4 P ev o
 |.call {callee:=.builtin .append,args,argTypes}=>match args.toList,argTypes.toList with
  |[a,x],[t,t']=>match ev a,ev x with
   |.pv (.lit (.slice none 0 0)),.pv (.lit (.int _ n))=>Qq0 tab H t t' n
   |_,_=>Qql tab H t t' (ev a) (ev x)
  |_,_=>.fail
 |.call {callee:=.builtin .len,args,argTypes}=>match args.toList,argTypes.toList with
  |[x],[t]=>Qg8 tab H t (ev x)
  |_,_=>.fail
 |.call {callee:=.builtin .copy,args,argTypes}=>match args.toList,argTypes.toList with
  |[a,x],[t,t']=>Zan tab H t t' (ev a) (ev x)
  |_,_=>.fail
 |.call {callee:=.builtin .clear,args,argTypes}=>match args.toList,argTypes.toList with
  |[x],[t]=>Qwl tab H t (ev x).unslb
  |_,_=>.fail
 |.call {callee:=.builtin _,..}=>J4 P ev o
 |.unOp ..=>J4 P ev o
 |.convert ..=>J4 P ev o
 |.index t x ix=>Qau P tab ev o t (ev x) (ev ix)
 |.makeInterface ..=>J4 P ev o
 |_=>.fail
theorem Qoq{M:Qc}{ρ:Env}{ev:Operand→SV}{va:Operand→Value}(hev:∀x,Qd M ρ (va x) (ev x))(parts:Array (Nat×Operand)):
  (parts.map fun(x:Nat×Operand)=>(x.1,va x.2)).size=(parts.toList.map fun p=>(p.1,ev p.2)).length∧
  ∀(k:Nat) (a:Nat×Value) (b:Nat×SV),(parts.map fun(x:Nat×Operand)=>(x.1,va x.2)).toList[k]? =some a→(parts.toList.map fun p=>(p.1,ev p.2))[k]? =some b→a.1=b.1∧Qd M ρ a.2 b.2:=by
 refine⟨by simp,fun k a b ha hb=>?_⟩;simp only[Array.toList_map,List.getElem?_map,Option.map_eq_some_iff]at ha hb;obtain⟨p,hp,rfl⟩:=ha;obtain⟨q,hq,rfl⟩:=hb;rw[hp]at hq;cases hq;exact⟨rfl,hev _⟩
theorem Qhn{M:Qc}{ρ:Env}{ev:Operand→SV}{va:Operand→Value}(hev:∀x,Qd M ρ (va x) (ev x))(a:Array Operand):
  (a.map va).size=(a.toList.map ev).length∧∀(i:Nat) (v:Value) (s:SV),(a.map va)[i]? =some v→(a.toList.map ev)[i]? =some s→Qd M ρ v s:=by
 refine⟨by simp,fun i v s hv hs=>?_⟩;simp only[Array.getElem?_map,List.getElem?_map,Option.map_eq_some_iff]at hv hs;obtain⟨p,hp,rfl⟩:=hv;obtain⟨q,hq,rfl⟩:=hs;rw[Array.getElem?_toList,hp]at hq;cases hq;exact hev _
theorem U4{M:Qc}{ρ:Env}{ev:Operand→SV}{va:Operand→Value}(hev:∀x,Qd M ρ (va x) (ev x))(a:Option Operand):
  (a.map va).isSome=(a.map ev).isSome∧∀v x,a.map va=some v→a.map ev=some x→Qd M ρ v x:=by
 cases a with
 |none=>exact⟨rfl,fun v x h=>by simp at h⟩
 |some y=>exact⟨rfl,fun v x h k=>by simp at h k;subst h;subst k;exact hev y⟩
theorem Zf5{P:Program}{tab:Qk}(htab:Qx P tab){M:Qc}{ρ:Env}{H:List Qa}{w:World}{K:Qn}{ev:Operand→SV}{va:Operand→Value}(hm:Mem M ρ H w)(hev:∀x,Qd M ρ (va x) (ev x)){o:Oper}
  (h:(sop P tab H ev o).holds H K):Yp P (execOp va o) M ρ H w K:=by
 unfold sop at h;split at h
 ·rename_i x ho;exact Yp.same hm (by simp[execOp,ho]) (hev x) h
 ·rename_i x ho;exact Yp.same hm (by simp[execOp,ho]) (hev x) h
 ·rename_i c a b ho;have hc:=hev c;split at h
  ·rename_i t e;rw[e]at hc;have ec:=hc.Q7;obtain⟨h1,h2⟩:=h;cases t with
   |true=>exact Yp.same hm (by simp[execOp,ho,ec,asBool]) (hev a) (h1 rfl)
   |false=>exact Yp.same hm (by simp[execOp,ho,ec,asBool]) (hev b) (h2 rfl)
  ·exact h.elim
 ·rename_i t ho;have:=(Zmd htab hm (old:=.tuple #[]) h).toN;simpa[execOp,ho]using this
 ·rename_i t x ho;have:=(Zlm htab hm (hev x) h).toN;simpa[execOp,ho]using this
 ·rename_i t parts ho;obtain⟨h1,h2⟩:=Qoq hev parts;have:=(Zu7 htab hm h1 h2 h).toN;simpa[execOp,ho]using this
 ·rename_i t len parts ho;obtain⟨h1,h2⟩:=Qoq hev parts;have:=(Zld htab hm h1 h2 h).toN;simpa[execOp,ho]using this
 ·rename_i t a ho;have:=(Zj0 htab hm (hev a) h).toN;simpa[execOp,ho]using this
 ·rename_i t a x ho;have:=(Zwg htab hm (hev a) (hev x) h).toN;simpa[execOp,ho]using this
 ·rename_i x ho;have hx:=hev x;split at h
  ·rename_i s sz i j e;rw[e]at hx;cases hv:va x with
   |pointer a=>
    rw[hv]at hx;cases hx with
    |ptr _ _ _ _ k p hp hk=>exact Yp.same hm (v:=.pointer (some ⟨p.block,k,none⟩)) (by simp[execOp,ho,hv]) (.ptr _ _ _ _ k p hp hk) h
   |_=>rw[hv]at hx;cases hx
  ·rename_i sz r i j e;rw[e]at hx;generalize hv:va x=vx at hx;cases hx with
   |pv hp=>
    cases hp with
    |rptr b off _ _ _ k _ hk h0 h1 h2=>exact Yp.same hm (v:=.pointer (some ⟨b,k,none⟩)) (by simp[execOp,ho,hv]) (.pv (.rptr b off sz i j k r hk h0 h1 h2)) h
  ·rename_i s e;rw[e]at hx;cases hv:va x with
   |map a=>rw[hv]at hx;exact Yp.same hm (v:=.map a) (by simp[execOp,ho,hv]) hx h
   |_=>rw[hv]at hx;cases hx
  ·rename_i f a b e;rw[e]at hx;cases hv:va x with
   |func g c d=>
    rw[hv]at hx;cases hx with
    |fn _ _ _ _ _ ha hb hh hk=>exact Yp.same hm (v:=.func (.func f) c d) (by simp[execOp,ho,hv]) (.fn _ _ _ _ _ ha hb hh hk) h
   |_=>rw[hv]at hx;cases hx
  ·exact K4 hm hev h
 ·rename_i op t x y t' ho;split at h
  ·rename_i r hr;obtain⟨q,hrun,hk⟩:=Qt3 (P:=P) htab (hev x) (hev y) hr h;have exec:execOp va o=(do pure (.value (←(do eqGuard op t x y (va x) (va y);binOp op t (va x) (va y))))):=by simp[execOp,ho]
   rw[exec];exact Yp.same hm (by have:=hrun w x y;simp only[Sem.run_bind]at this⊢;simp[this]) (.pv (.lit _)) hk
  ·exact Zi6 htab hm hev ho h
 ·rename_i fn a b ho;obtain⟨a1,a2⟩:=Qhn hev a;obtain⟨b1,b2⟩:=Qhn hev b;exact Yp.same hm (by simp[execOp,ho,Instr.makeFunc]) (.fn fn _ _ _ _ a1 b1 a2 b2) h
 ·rename_i t r ho;split at h
  ·have:=(Zis (P:=P) (t:=t) hm h).toN;simpa[execOp,ho]using this
  ·exact h.elim
 ·rename_i t l c ho;have:=(Zws htab hm (hev l) (hev c) h).toN;simpa[execOp,ho]using this
 ·rename_i t x lo hi mx ho;split at h
  ·obtain⟨l1,l2⟩:=U4 hev lo;obtain⟨h1,h2⟩:=U4 hev hi;have:=(Zt4 htab hm (hev x) l1 l2 h1 h2 h).toN;simpa[execOp,ho]using this
  ·rename_i m;obtain⟨l1,l2⟩:=U4 hev lo;obtain⟨h1,h2⟩:=U4 hev hi;obtain⟨v',hr,y,hy,hk⟩:=Qun htab (hev x) l1 l2 h1 h2 (hev m) h;have:=(Qq.same hm (hr w) hy hk).toN;simpa[execOp,ho]using this
 ·rename_i t x f ho;have:=(Zk4 htab hm (hev x) h).toN;simpa[execOp,ho]using this
 ·rename_i t x f ho;split at h
  ·rename_i l e;have hx:=hev x;rw[e]at hx;have:=(Zjb htab hm hx h).toN;simpa[execOp,ho]using this
  ·exact K4 hm hev h
 ·rename_i t x ix ho;have:=(Zec htab hm (hev x) (hev ix) h).toN;simpa[execOp,ho]using this
 ·rename_i t m k ok ho;have:=(Zjf htab hm (hev m) (hev k) h).toN;simpa[execOp,ho]using this
 ·rename_i t m k x ho;have:=(Qyp htab hm (hev m) (hev k) (hev x) h).toN;simpa[execOp,ho]using this
 ·rename_i t m k x ho;have:=(Qyp htab hm (hev m) (hev k) (hev x) h).toN;simpa[execOp,ho]using this
 ·rename_i t m k ho;have:=(Zpn htab hm (hev m) (hev k) h).toN;simpa[execOp,ho]using this
 ·rename_i t m s x ho;have:=(Zeq (P:=P) (t:=t) hm (hev m) (hev s) (hev x) h).toN;simpa[execOp,ho]using this
 ·rename_i t x ho;have:=(Zrd htab hm (hev x) h).toN;simpa[execOp,ho]using this
 ·rename_i x isS ho;split at h
  ·rename_i e;subst e;have:=(Zl0 (P:=P) (t:=o.type) hm (hev x) h).toN;simpa[execOp,ho]using this
  ·rename_i e;have e:isS=false:=by simpa using e
   subst e;have:=(Zu8 (P:=P) (t:=o.type) hm (hev x) h).toN;simpa[execOp,ho]using this
 ·rename_i x ho;have:=(Zyw (P:=P) hm (hev x) h).toN;simpa[execOp,ho]using this
 ·rename_i x i ho;split at h
  ·rename_i l e;have hx:=hev x;rw[e]at hx;cases hv:va x with
   |tuple cs=>
    rw[hv]at hx;cases hx with
    |tup _ _ hl hr=>
     split at h
     ·rename_i y hy;have hlt:i<cs.size:=by have:=(List.getElem?_eq_some_iff.1 hy).1;omega
      exact Yp.same hm (v:=cs[i]) (by simp[execOp,ho,hv,Instr.extract,hlt]) (hr i _ y (by simp[hlt]) hy) h
     ·exact h.elim
   |_=>rw[hv]at hx;cases hx
  ·exact K4 hm hev h
 ·rename_i args argTypes ho;split at h
  ·rename_i a x t t' ea et;have ea':args= #[a,x]:=by rw[←Array.toArray_toList (xs:=args),ea]
   have et':argTypes= #[t,t']:=by rw[←Array.toArray_toList (xs:=argTypes),et]
   subst ea';subst et';split at h
   ·rename_i k n e1 e2;have h1:=hev a;have h2:=hev x;rw[e1]at h1;rw[e2]at h2;have e1:=h1.Q7;have e2:=h2.Q7;have:=(Zye (ty:=o.type) (k:=k) htab hm h).toN;simpa[execOp,ho,resolve,invoke,builtin,e1,e2]using this
   ·have:=(Zt5 (ty:=o.type) htab hm (hev a) (hev x) h).toN;simpa[execOp,ho,resolve,invoke,builtin]using this
  ·exact h.elim
 ·rename_i args argTypes ho;split at h
  ·rename_i x t ea et;have ea':args= #[x]:=by rw[←Array.toArray_toList (xs:=args),ea]
   have et':argTypes= #[t]:=by rw[←Array.toArray_toList (xs:=argTypes),et]
   subst ea';subst et';have:=(Zdz (ty:=o.type) htab hm (hev x) h).toN;simpa[execOp,ho,resolve,invoke,builtin]using this
  ·exact h.elim
 ·rename_i args argTypes ho;split at h
  ·rename_i a x t t' ea et;have ea':args= #[a,x]:=by rw[←Array.toArray_toList (xs:=args),ea]
   have et':argTypes= #[t,t']:=by rw[←Array.toArray_toList (xs:=argTypes),et]
   subst ea';subst et';have:=(Zd7 (ty0:=o.type) htab hm (hev a) (hev x) h).toN;simpa[execOp,ho,resolve,invoke,builtin]using this
  ·exact h.elim
 ·rename_i args argTypes ho;split at h
  ·rename_i x t ea et;have ea':args= #[x]:=by rw[←Array.toArray_toList (xs:=args),ea]
   have et':argTypes= #[t]:=by rw[←Array.toArray_toList (xs:=argTypes),et]
   subst ea';subst et';have:=(Ziv (ty0:=o.type) htab hm (hev x).unslb h).toN;simpa[execOp,ho,resolve,invoke,builtin]using this
  ·exact h.elim
 ·exact K4 hm hev h
 ·exact K4 hm hev h
 ·exact K4 hm hev h
 ·rename_i t x ix ho;generalize ex:ev x=sx at h;generalize ei:ev ix=si at h;unfold Qau at h;split at h
  ·have hx:=hev x;have hi:=hev ix;rw[ex]at hx;rw[ei]at hi;have ex':=hx.Q7;have ei':=hi.Q7;rename_i k _;obtain⟨v,hk,hr⟩:=Qt7 (P:=P) (ev:=ev) (o:=o) (k:=k) (H:=H) (K:=K) htab (by simpa only[Qau]using h);exact Yp.same hm (by simp[execOp,ho,ex',ei',hr]) (.pv (.lit v)) hk
  ·exact K4 hm hev h
 ·exact K4 hm hev h
 ·exact h.elim
structure Cx where
 P:Program
 tab:Qk
 fns:List (Nat×Func)
 low:Bool:=false
structure Y4 (P:Program) (fns:List (Nat×Func)):Prop where
 ok:∀f fn,fns.lookup f=some fn→P.funcs[f]? =some fn∧∀args w,(callFunc f args).run P w=.ok (.enter f args) w
theorem Y4.nil(P:Program):Y4 P []:=⟨fun f fn h=>by simp at h⟩
theorem Y4.cons{P:Program}{g:Nat}{gn:Func}{rest:List (Nat×Func)}(h1:P.funcs[g]? =some gn)(h2:∀args w,(callFunc g args).run P w=.ok (.enter g args) w)(hr:Y4 P rest):Y4 P ((g,gn)::rest):=by
 refine⟨fun f fn h=>?_⟩;rw[List.lookup_cons]at h;split at h
 ·rename_i e;have e:f=g:=by simpa using e
  subst e;cases h;exact⟨h1,h2⟩
 ·exact hr.ok f fn h
structure Cx.Ok (c:Cx):Prop where
 tab:Qx c.P c.tab
 fns:Y4 c.P c.fns
 mix:c.P.follows .mixedOrders=true
def Cx.Km(c:Cx):Cx:={P:=c.P,tab:=c.tab,fns:=c.fns,low:=true}
theorem Cx.Ok.Km{c:Cx}(h:c.Ok):c.Km.Ok:=⟨h.tab,h.fns,h.mix⟩
theorem Cx.Ok.fn{c:Cx}(h:c.Ok){f:Nat}{fn:Func}(hf:c.fns.lookup f=some fn):c.P.funcs[f]? =some fn∧∀args w,(callFunc f args).run c.P w=.ok (.enter f args) w:=h.fns.ok f fn hf
def U9(P:Program)(o:Oper)(a:Act)(w:World)(N:Value→World→Prop):Prop:=
 (∃v w',((execOp a.eval o).run P w=.ok (.value v) w'∨((execOp a.eval o).run P w=.ok .skip w'∧v=undef))∧N v w')∨
 (∃f args w1,(execOp a.eval o).run P w=.ok (.enter f args) w1∧CallsIn Fence.wide 0 P f args w1 fun e w'=>∃v,e=.returned v∧N v w')∨
 ∃l f tmps assign body w1,(execOp a.eval o).run P w=.ok (.round l f tmps assign body) w1∧RoundIn Fence.wide 0 P l f tmps assign body w1 fun e w'=>∃v,e=.returned v∧N v w'
theorem U9.mono{P:Program}{o:Oper}{a:Act}{w:World}{N N':Value→World→Prop}(h:U9 P o a w N)(hn:∀v w',N v w'→N' v w'):U9 P o a w N':=by
 rcases h with⟨v,w',hr,hN⟩|⟨f,args,w1,hr,hc⟩|⟨l,f,tmps,as,bd,w1,hr,hc⟩
 ·exact .inl ⟨v,w',hr,hn _ _ hN⟩
 ·exact .inr (.inl ⟨f,args,w1,hr,hc.mono fun e w' ⟨v,he,hN⟩=>⟨v,he,hn _ _ hN⟩⟩)
 ·exact .inr (.inr ⟨l,f,tmps,as,bd,w1,hr,hc.mono fun e w' ⟨v,he,hN⟩=>⟨v,he,hn _ _ hN⟩⟩)
def Jy:Op→Bool
 |.defer _=>false
 |_=>true
theorem U9.wpIn{R:Option Nat}{P:Program}{o:Oper}{a:Act}{w:World}{N:Value→World→Prop}{next:Act→World→Prop}{Q:Exit→Act→World→Prop}(hd:Jy o.op=true)(h:U9 P o a w N)
  (hn:∀v w',N v w'→next (a.put o.dst v) w'):o.wpIn (FW R) 0 P a w next Q:=by
 refine⟨fun _ _=>trivial,?_⟩;have hs:o.semAt (FW R).round a.eval=execOp a.eval o:=Oper.semAt_eq _ _ o fun c hc=>by rw[hc]at hd;cases hd
 rw[hs];rcases h with⟨v,w',hr|⟨hr,rfl⟩,hN⟩|⟨f,args,w1,hr,hc⟩|⟨l,f,tmps,as,bd,w1,hr,hc⟩
 ·rw[hr];exact hn v w' hN
 ·rw[hr];exact hn _ w' hN
 ·rw[hr];show(((FW R).depth.isSome=true→1≤0)∧_);refine⟨fun hx=>by simp[FW,Fence.wide]at hx,?_⟩;have hc':CallsIn (FW R) (0-1) P f args w1 fun e w'=>∃v,e=.returned v∧N v w':=hc;refine hc'.mono ?_
  rintro e w' ⟨v,rfl,hN⟩
  exact hn v w' hN
 ·rw[hr];show(((FW R).depth.isSome=true→1≤0)∧_);refine⟨fun hx=>by simp[FW,Fence.wide]at hx,?_⟩;have hc':RoundIn (FW R) (0-1) P l f tmps as bd w1 fun e w'=>∃v,e=.returned v∧N v w':=hc;refine hc'.mono ?_
  rintro e w' ⟨v,rfl,hN⟩
  exact hn v w' hN
def Uw(P:Program)(s:Nat)(args:List SV)(H:List Qa)(Q:Qn):Prop:=
 ∀M ρ w p vs,Mem M ρ H w→ρ s=some p→Xn M ρ vs args→∃l f tmps assign body w1,(Instr.yield p.block vs.toArray).run P w=.ok (.round l f tmps assign body) w1∧
  RoundIn Fence.wide 0 P l f tmps assign body w1 fun e w'=>∃v r H' M' ρ' tch fg,e=.returned v∧Q r H' tch fg∧Qd M' ρ' v r∧Mem M' ρ' H' w'∧Fr M ρ H w M' ρ' H' w' H.length tch fg
theorem Uw.mono{P:Program}{s:Nat}{args:List SV}{H:List Qa}{Q Q':Qn}(h:Uw P s args H Q)(hq:∀r H' t g,Q r H' t g→Q' r H' t g):Uw P s args H Q':=
 fun M ρ w p vs hm hp hr=>let⟨l,f,tmps,as,bd,w1,hrun,hc⟩:=h M ρ w p vs hm hp hr
  ⟨l,f,tmps,as,bd,w1,hrun,hc.mono fun e w' ⟨v,r,H',M',ρ',t,g,he,q,rest⟩=>⟨v,r,H',M',ρ',t,g,he,hq _ _ _ _ q,rest⟩⟩
def Qg1(ev:Operand→SV)(c:Call):Option (Nat×List SV):=
 match c.callee with
 |.value f=>match ev f with
  |.yld s=>some (s,c.args.toList.map ev)
  |_=>none
 |_=>none
def target(ev:Operand→SV)(c:Call):Option (Nat×List SV):=
 match c.callee with
 |.value f=>match ev f with
  |.pv (.lit (.func (.func g) first cap))=>some (g,first.toList.map SV.lit++c.args.toList.map ev++cap.toList.map SV.lit)
  |.fn (.func g) first cap=>some (g,first++c.args.toList.map ev++cap)
  |_=>none
 |_=>none
def Qgv:Op→Option Call
 |.call {callee:=.value f,args,argTypes}=>some {callee:=.value f,args,argTypes}
 |_=>none
def opP(cx:Cx)(ev:Operand→SV)(H:List Qa)(o:Oper)(K:Qn):Prop:=
 match Qgv o.op with
 |some c=>match Qg1 ev c with
  |some (s,args)=>Uw cx.P s args H K
  |none=>match target ev c with
   |none=>False
   |some (g,args)=>match cx.fns.lookup g with
    |none=>False
    |some _=>Yu cx.P g args H K
 |none=>(sop cx.P cx.tab H ev o).holds H K
theorem Ql1{M:Qc}{ρ:Env}(a:Array Value):∀(i:Nat) (v:Value) (x:SV),a.toList[i]? =some v→(a.toList.map SV.lit)[i]? =some x→Qd M ρ v x:=by intro i v x hv hx;simp only[List.getElem?_map,Option.map_eq_some_iff]at hx;obtain⟨u,hu,rfl⟩:=hx;rw[hv]at hu;cases hu;exact .pv (.lit _)
theorem Qc1{M:Qc}{ρ:Env}{v1 v2:List Value}{x1 x2:List SV}(h1:Xn M ρ v1 x1)(h2:Xn M ρ v2 x2):Xn M ρ (v1++v2) (x1++x2):=by
 refine⟨by simp[h1.1,h2.1],fun i v x hv hx=>?_⟩;rw[List.getElem?_append]at hv hx;rw[h1.1]at hv;split at hv
 ·rename_i h;rw[if_pos h]at hx;exact h1.2 i v x hv hx
 ·rename_i h;rw[if_neg h]at hx;exact h2.2 _ v x hv hx
theorem Qxx{cx:Cx}(hcx:cx.Ok){M:Qc}{ρ:Env}{H:List Qa}{w:World}{K:Qn}{ev:Operand→SV}{a:Act}(hm:Mem M ρ H w)(hev:∀x,Qd M ρ (a.eval x) (ev x)){o:Oper}
  (h:opP cx ev H o K):U9 cx.P o a w fun v w'=>∃x H' tch fg M' ρ',K x H' tch fg∧Qd M' ρ' v x∧Mem M' ρ' H' w'∧Fr M ρ H w M' ρ' H' w' H.length tch fg:=by
 unfold opP at h;cases hc:Qgv o.op with
 |none=>simp only[hc]at h;exact .inl (Zf5 hcx.tab hm hev h)
 |some c=>
  simp only[hc]at h;have ho:o.op=.call c:=by
   unfold Qgv at hc;split at hc
   ·rename_i e;cases hc;exact e
   ·cases hc
  have argsr:Xn M ρ (c.args.map a.eval).toList (c.args.toList.map ev):=by obtain⟨r1,r2⟩:=Qhn hev c.args;exact⟨by simpa using r1,fun i v x hv hx=>r2 i v x (by rw[←Array.getElem?_toList];exact hv) hx⟩
  cases hy:Qg1 ev c with
  |some q=>
   obtain⟨s,args⟩:=q;simp only[hy]at h;unfold Qg1 at hy;split at hy
   ·rename_i f hcal;have hf:=hev f;split at hy
    ·rename_i s' e;rw[e]at hf;cases hy;generalize hv:a.eval f=vf at hf;cases hf with
     |yld _ p hp=>obtain⟨l,g,tmps,as,bd,w1,hrun,hround⟩:=h M ρ w p _ hm hp argsr;refine .inr (.inr ⟨l,g,tmps,as,bd,w1,?_,hround.mono fun e w' ⟨v,r,H',M',ρ',t,fg,he,hk,hs,hm',hf'⟩=>⟨v,he,r,H',t,fg,M',ρ',hk,hs,hm',hf'⟩⟩);simp only[Array.toArray_toList]at hrun;simpa[execOp,ho,resolve,hcal,Deferred.ofValue,hv,invoke]using hrun
    ·cases hy
   ·cases hy
  |none=>
   simp only[hy]at h;cases ht:target ev c with
   |none=>simp only[ht]at h
   |some q=>
    obtain⟨g,args⟩:=q;simp only[ht]at h;cases hfn:cx.fns.lookup g with
    |none=>simp only[hfn]at h
    |some fn=>
     simp only[hfn]at h;have callf:∀vs,(callFunc g vs).run cx.P w=.ok (.enter g vs) w:=fun vs=>(hcx.fn hfn).2 vs w;have key:∀(f:Operand) (first cap:Array Value) (x1 x2:List SV),c.callee=.value f→a.eval f=.func (.func g) first cap→Xn M ρ first.toList x1→Xn M ρ cap.toList x2→args=x1++c.args.toList.map ev++x2→
       U9 cx.P o a w fun v w'=>∃x H' tch fg M' ρ',K x H' tch fg∧Qd M' ρ' v x∧Mem M' ρ' H' w'∧Fr M ρ H w M' ρ' H' w' H.length tch fg:=by
      intro f first cap x1 x2 hcal hf h1 h2 hargs
      refine .inr (.inl ⟨g,first++c.args.map a.eval++cap,w,?_,?_⟩)
      ·simp[execOp,ho,resolve,hcal,Deferred.ofValue,hf,invoke,callf]
      ·have:=h M ρ w (first.toList++(c.args.map a.eval).toList++cap.toList) hm (by rw[hargs];exact Qc1 (Qc1 h1 argsr) h2);have e:(first.toList++(c.args.map a.eval).toList++cap.toList).toArray=first++c.args.map a.eval++cap:=by simp
       rw[e]at this;exact this.mono fun e w' ⟨v,r,H',M',ρ',t,fg,he,hk,hs,hm',hf'⟩=>⟨v,he,r,H',t,fg,M',ρ',hk,hs,hm',hf'⟩
     unfold target at ht;split at ht
     ·rename_i f hcal;have hf:=hev f;split at ht
      ·rename_i g' first cap e
       rw[e]at hf;cases ht;exact key f first cap _ _ hcal hf.Q7 ⟨by simp,Ql1 first⟩ ⟨by simp,Ql1 cap⟩ rfl
      ·rename_i g' first cap e
       rw[e]at hf;cases ht;generalize hv:a.eval f=vf at hf;cases hf with
       |fn _ fa fb _ _ ha hb hh hk=>exact key f fa fb _ _ hcal hv ⟨by simpa using ha,fun i v x hv hx=>hh i v x (by rw[←Array.getElem?_toList];exact hv) hx⟩ ⟨by simpa using hb,fun i v x hv hx=>hk i v x (by rw[←Array.getElem?_toList];exact hv) hx⟩ rfl
      ·cases ht
     ·cases ht
def Vh(fg:List Nat)(T:TT):TT:=match fg with
 |[]=>T
 |a::l=>T.map (SV.forget (a::l))
def Yt(n:Nat)(l acc:List Nat):List Nat:=match l with
 |[]=>acc
 |_=>l.filter (fun x=>decide (x<n)&& !acc.contains x)++acc
theorem Qbq{n:Nat}{l acc:List Nat}{x:Nat}(h:x∈acc):x∈Yt n l acc:=by
 unfold Yt;split
 ·exact h
 ·exact List.mem_append.2 (.inr h)
theorem Zhv(n:Nat)(l acc:List Nat):Yt n l acc=l.filter (fun x=>decide (x<n)&& !acc.contains x)++acc:=by cases l<;>rfl
def TT.put(T:TT)(dst:Option Tmp)(x:SV):TT:=match dst with
 |some d=>T.set d x
 |none=>T
def Qyx(dst:Option Tmp)(er:List Nat):List Nat:=match dst with
 |some d=>d::er
 |none=>er
def St.put(s:St)(dst:Option Tmp)(x:SV):St:=match s with
 |⟨T,H,n0,tch,fg,marks,er⟩=>⟨T.put dst x,H,n0,tch,fg,marks,Qyx dst er⟩
theorem St.Zz0(s:St)(d:Tmp)(x:SV):s.put (some d) x={s with T:=s.T.set d x,er:=d::s.er}:=by cases s;rfl
theorem St.Zz1(s:St)(x:SV):s.put none x=s:=by cases s;rfl
def St.step(s:St)(dst:Option Tmp)(x:SV)(H:List Qa)(tch fg:List Nat):St:=match s with
 |⟨T,_,n0,tch0,fg0,marks,er⟩=>⟨(Vh fg T).put dst x,H,n0,Yt n0 tch tch0,Yt n0 fg fg0,marks,Qyx dst er⟩
theorem St.step_eq(s:St)(dst:Option Tmp)(x:SV)(H:List Qa)(tch fg:List Nat):
  s.step dst x H tch fg=St.put {T:=Vh fg s.T,H:=H,n0:=s.n0,tch:=Yt s.n0 tch s.tch,fg:=Yt s.n0 fg s.fg,marks:=s.marks,er:=s.er} dst x:=by cases s;rfl
def Xy(nt:Nat):Option Tmp→Bool
 |some d=>Nat.blt d nt
 |none=>true
def Qbm(s:St)(nt:Nat)(dst:Option Tmp)(H:List Qa)(fg:List Nat):Bool:=
 Xy nt dst&&(fg.isEmpty||s.marks.all fun m=>!fg.contains m)&&Nat.ble s.n0 H.length
theorem Qjr{fg:List Nat}{T:TT}{t:Nat}{x:SV}(h:(Vh fg T).get t=some x):∃y,T.get t=some y∧(x=y.forget fg∨(fg=[]∧x=y)):=by
 unfold Vh at h;split at h
 ·exact⟨x,h,.inr ⟨rfl,rfl⟩⟩
 ·rw[TT.get_map]at h;simp only[Option.map_eq_some_iff]at h;obtain⟨y,hy,rfl⟩:=h;exact⟨y,hy,.inl rfl⟩
theorem Qd.after{M M':Qc}{ρ ρ':Env}{fg:List Nat}(hM:M.le M')(hρ:∀s,s∉fg→∀p,ρ s=some p→ρ' s=some p){v:Value}{y x:SV}(h:Qd M ρ v y)(hx:x=y.forget fg∨(fg=[]∧x=y)):Qd M' ρ' v x:=by
 rcases hx with rfl|⟨rfl,rfl⟩
 ·exact h.forget hM fun s p hs hp=>hρ s (by simpa using hs) p hp
 ·exact h.mono hM fun s p hp=>hρ s (by simp) p hp
theorem Fr.env{M M':Qc}{ρ ρ':Env}{H H':List Qa}{w w':World}{tch fg:List Nat}(hm:Mem M ρ H w)(hf:Fr M ρ H w M' ρ' H' w' H.length tch fg):∀s,s∉fg→∀p,ρ s=some p→ρ' s=some p:=fun s hs p hp=>by
 rcases Nat.lt_or_ge s H.length with h|h
 ·rw[hf.stay s h hs];exact hp
 ·rw[hm.fresh s h]at hp;cases hp
theorem Qb6{n:Nat}{l acc:List Nat}{x:Nat}(hx:x<n)(h:x∈l):x∈Yt n l acc:=by
 rw[Zhv];by_cases hc:x∈acc
 ·exact List.mem_append.2 (.inr hc)
 ·refine List.mem_append.2 (.inl (List.mem_filter.2 ⟨h,?_⟩));simp[hx,hc]
theorem Qy0{a:Act}{d t:Nat}{v:Value}(hd:d<a.tmps.size):(a.put (some d) v).tmps.getD t undef=if t=d then v else a.tmps.getD t undef:=by
 simp only[Act.put,Array.getD_eq_getD_getElem?,Array.getElem?_setIfInBounds];by_cases h:d=t
 ·subst h;simp[hd]
 ·rw[if_neg h,if_neg (fun e=>h e.symm)]
theorem Good.put{B:Nat→Value}{nt:Nat}{M:Qc}{ρ:Env}{s:St}{a:Act}{w:World}(hg:Good B nt M ρ s a w){dst:Option Tmp}(hd:Xy nt dst=true){v:Value}{x:SV}(hx:Qd M ρ v x):Good B nt M ρ (s.put dst x) (a.put dst v) w:=by
 cases dst with
 |none=>rw[St.Zz1];exact hg
 |some d=>
  have hd':d<nt:=by simpa[Xy]using hd
  rw[St.Zz0];refine⟨fun t y hy=>?_,by simp[Act.put,hg.sz],hg.mem,hg.df,hg.mks,hg.nle,fun t ht=>?_⟩;rw[Qy0 (by rw[hg.sz];exact hd')];rcases TT.Wh _ _ _ _ _ hy with⟨e,rfl⟩|⟨e,hy⟩
  ·rw[if_pos e];exact hx
  ·rw[if_neg e];exact hg.tm t y hy
  ·have ht:t∉d::s.er:=ht;simp only[List.mem_cons,not_or]at ht;rw[Qy0 (by rw[hg.sz];exact hd'),if_neg ht.1];exact hg.fix t ht.2
theorem Zgb{B:Nat→Value}{nt:Nat}{M M':Qc}{ρ ρ':Env}{s:St}{a:Act}{w w':World}(hg:Good B nt M ρ s a w){dst:Option Tmp}{v:Value}{x:SV}{H:List Qa}{tch fg:List Nat}
  (hok:Qbm s nt dst H fg=true) (hx:Qd M' ρ' v x) (hm:Mem M' ρ' H w') (hf:Fr M ρ s.H w M' ρ' H w' s.H.length tch fg):
  Good B nt M' ρ' (s.step dst x H tch fg) (a.put dst v) w'∧Z8 M ρ s w M' ρ' (s.step dst x H tch fg) w':=by
 simp only[Qbm,Bool.and_eq_true]at hok;obtain⟨⟨h1,h2⟩,h3⟩:=hok;have h3:=Nat.le_of_ble_eq_true h3;have h4:=hg.nle;have h2:(s.marks.all fun m=>!fg.contains m)=true:=by
  rw[Bool.or_eq_true]at h2;rcases h2 with h|h
  ·rw[List.isEmpty_iff]at h;subst h;simp
  ·exact h
 have henv:=hf.env hg.mem;rw[St.step_eq];have hbase:Good B nt M' ρ' {T:=Vh fg s.T,H:=H,n0:=s.n0,tch:=Yt s.n0 tch s.tch,fg:=Yt s.n0 fg s.fg,marks:=s.marks,er:=s.er} a w':=by
  refine⟨fun t y hy=>?_,hg.sz,hm,⟨hg.df.1,fun i d m hd hmk=>?_⟩,hg.mks,h3,hg.fix⟩
  ·obtain⟨z,hz,hyz⟩:=Qjr hy;exact(hg.tm t z hz).after hf.imm henv hyz
  ·obtain⟨p,hp,e⟩:=hg.df.2 i d m hd hmk;have hmem:=List.mem_of_getElem? hmk;refine⟨p,henv m ?_ p hp,e⟩;have:=List.all_eq_true.1 h2 m hmem;simpa using this
 have hgoes:Z8 M ρ s w M' ρ' {T:=Vh fg s.T,H:=H,n0:=s.n0,tch:=Yt s.n0 tch s.tch,fg:=Yt s.n0 fg s.fg,marks:=s.marks,er:=s.er} w':=
  ⟨hf.weaken h4 (fun x hx ht=>Qb6 hx ht) (fun x hx ht=>Qb6 hx ht),rfl,fun x hx=>Qbq hx,fun x hx=>Qbq hx⟩
 refine⟨hbase.put h1 hx,?_⟩;exact⟨hgoes.fr,hgoes.n0,hgoes.tch,hgoes.fg⟩
def St.adv(nt:Nat)(s:St)(dst:Option Tmp)(K:St→Prop):Qn:=fun x H t f=>
 (Xy nt dst=true∧H=s.H∧t=[]∧f=[]∧K (s.put dst x))∨(Qbm s nt dst H f=true∧K (s.step dst x H t f))
theorem Zbf{B:Nat→Value}{nt:Nat}{M M':Qc}{ρ ρ':Env}{s:St}{a:Act}{w w':World}(hg:Good B nt M ρ s a w){dst:Option Tmp}{v:Value}{x:SV}{H:List Qa}{tch fg:List Nat}{K:St→Prop}
  (h:s.adv nt dst K x H tch fg) (hx:Qd M' ρ' v x) (hm:Mem M' ρ' H w') (hf:Fr M ρ s.H w M' ρ' H w' s.H.length tch fg):
  ∃s',K s'∧s'.H=H∧Good B nt M' ρ' s' (a.put dst v) w'∧Z8 M ρ s w M' ρ' s' w':=by
 rcases h with⟨hd,rfl,rfl,rfl,hk⟩|⟨hok,hk⟩
 ·have henv:=hf.env hg.mem;have hg':Good B nt M' ρ' s a w':=⟨fun t y hy=>(hg.tm t y hy).after hf.imm henv (.inr ⟨rfl,rfl⟩),hg.sz,hm,⟨hg.df.1,fun i d m hd hmk=>by obtain⟨p,hp,e⟩:=hg.df.2 i d m hd hmk;exact⟨p,henv m (by simp) p hp,e⟩⟩,hg.mks,hg.nle,hg.fix⟩;have hgo:Z8 M ρ s w M' ρ' s w':=⟨hf.weaken hg.nle (fun x _ h=>by cases h) (fun x _ h=>by cases h),rfl,fun _ h=>h,fun _ h=>h⟩;exact⟨_,hk,rfl,hg'.put hd hx,⟨hgo.fr,hgo.n0,hgo.tch,hgo.fg⟩⟩
 ·obtain⟨g1,g2⟩:=Zgb hg hok hx hm hf;exact⟨_,hk,by rw[St.step_eq];cases dst<;>rfl,g1,g2⟩
def opV(cx:Cx)(nt:Nat)(o:Oper)(s:St)(K:St→Prop):Prop:=
 Jy o.op=true∧opP cx s.ev s.H o (s.adv nt o.dst K)
def Qdv(ops:Array Oper)(j:Nat):Option Nat:=(ops[j]?).bind (·.dst)
def K9(ops:Array Oper)(o:Oper)(s:St)(run skip:St→Prop):Prop:=
 match o.guard with
 |none=>run s
 |some (j,want)=>match Qdv ops j with
  |none=>False
  |some d=>match s.T.get d with
   |some (.pv (.lit (.bool b)))=>(b=want→run {s with T:=s.T.set d (.lit (.bool want))})∧(b= !want→skip {s with T:=s.T.set d (.lit (.bool !want))})
   |some (.pv (.lit (.tuple _)))=>skip s
   |_=>False
def Qee(cx:Cx)(nt:Nat)(ops:Array Oper):List Oper→St→(St→Prop)→Prop
 |[],s,K=>K s
 |o::rest,s,K=>K9 ops o s (fun s'=>opV cx nt o s' fun s''=>Qee cx nt ops rest s'' K) (fun s'=>Xy nt o.dst=true∧Qee cx nt ops rest (s'.put o.dst (.lit undef)) K)
theorem Good.Zb8{B:Nat→Value}{nt:Nat}{M:Qc}{ρ:Env}{s:St}{a:Act}{w:World}(hg:Good B nt M ρ s a w){d:Nat}{x:SV}(hx:Qd M ρ (a.tmps.getD d undef) x):Good B nt M ρ {s with T:=s.T.set d x} a w:=by
 refine⟨fun t y hy=>?_,hg.sz,hg.mem,hg.df,hg.mks,hg.nle,hg.fix⟩;rcases TT.Wh _ _ _ _ _ hy with⟨e,rfl⟩|⟨e,hy⟩
 ·rw[e];exact hx
 ·exact hg.tm t y hy
theorem Zgr{ops:Array Oper}{tmps:Array Value}{j d:Nat}{c:Array Value}(hs:Qdv ops j=some d)(hv:tmps.getD d undef=.tuple c):yielded ops tmps j=none:=by
 unfold yielded;unfold Qdv at hs;rw[hs];simp only[Option.bind_some];rw[Array.getD_eq_getD_getElem?]at hv;cases e:tmps[d]? with
 |none=>rfl
 |some v=>rw[e]at hv;simp at hv;subst hv;rfl
theorem Zio{ops:Array Oper}{tmps:Array Value}{j d:Nat}{b:Bool}(hs:Qdv ops j=some d)(hv:tmps.getD d undef=.bool b):yielded ops tmps j=some b:=by
 unfold yielded;unfold Qdv at hs;rw[hs];simp only[Option.bind_some];rw[Array.getD_eq_getD_getElem?]at hv;cases e:tmps[d]? with
 |none=>rw[e]at hv;simp[undef]at hv
 |some v=>rw[e]at hv;simp at hv;subst hv;rfl
theorem Qn4{B:Nat→Value}{nt:Nat}{M:Qc}{ρ:Env}{s:St}{a:Act}{w:World}(hg:Good B nt M ρ s a w){ops:Array Oper}{o:Oper}{run skip:St→Prop}(h:K9 ops o s run skip):
  (Region.wanted o (yielded ops a.tmps)=true∧∃s',run s'∧Good B nt M ρ s' a w∧Z8 M ρ s w M ρ s' w∧s'.H=s.H)∨
  (Region.wanted o (yielded ops a.tmps)=false∧∃s',skip s'∧Good B nt M ρ s' a w∧Z8 M ρ s w M ρ s' w∧s'.H=s.H):=by
 unfold K9 at h;split at h
 ·rename_i e;exact .inl ⟨by simp[Region.wanted,e],s,h,hg,Z8.refl ..,rfl⟩
 ·rename_i j want e;split at h
  ·exact h.elim
  ·rename_i d hd;split at h
   ·rename_i b hb;have hv:=(hg.tm d _ hb).Q7;have hy:=Zio hd hv;have hw:Region.wanted o (yielded ops a.tmps)=(b==want):=by simp only[Region.wanted,e,hy];cases b<;>cases want<;>rfl
    by_cases hbw:b=want
    ·subst hbw;refine .inl ⟨by rw[hw];simp,_,h.1 rfl,hg.Zb8 (by rw[hv];exact .pv (.lit _)),⟨Fr.refl ..,rfl,fun _ h=>h,fun _ h=>h⟩,rfl⟩
    ·have hb':b= !want:=by cases b<;>cases want<;>simp_all
     refine .inr ⟨by rw[hw];simp[hbw],_,h.2 hb',hg.Zb8 (by rw[hv,hb'];exact .pv (.lit _)),⟨Fr.refl ..,rfl,fun _ h=>h,fun _ h=>h⟩,rfl⟩
   ·rename_i c hb;have hv:=(hg.tm d _ hb).Q7;have hy:=Zgr hd hv;exact .inr ⟨by simp[Region.wanted,e,hy],s,h,hg,Z8.refl ..,rfl⟩
   ·exact h.elim
theorem Qp0{cx:Cx}(hcx:cx.Ok){R:Option Nat}{B:Nat→Value}{nt:Nat}{ops:Array Oper}{Q:Exit→Act→World→Prop}{M0:Qc}{ρ0:Env}{s0:St}{w0:World}{K:St→Prop}
  (hQ:∀M ρ s a w,K s→Good B nt M ρ s a w→Z8 M0 ρ0 s0 w0 M ρ s w→Q .normal a w):
  ∀(l:List Oper) (k:Nat) (s:St) (M:Qc) (ρ:Env) (a:Act) (w:World),(∀j,l[j]? =ops[k+j]?)→Qee cx nt ops l s K→Good B nt M ρ s a w→Z8 M0 ρ0 s0 w0 M ρ s w→
   wpOpsIn (FW R) 0 cx.P ops Q (List.range' k l.length) a w
 |[],k,s,M,ρ,a,w,_,h,hg,go=>hQ M ρ s a w h hg go
 |o::rest,k,s,M,ρ,a,w,hl,h,hg,go=>by
  have ho:ops[k]? =some o:=by simpa using(hl 0).symm
  have hl':∀j,rest[j]? =ops[k+1+j]? :=fun j=>by have:=hl (j+1);simpa[Nat.add_assoc,Nat.add_comm 1 j]using this
  simp only[List.length_cons,List.range'_succ,wpOpsIn,ho];rcases Qn4 hg h with⟨hw,s',⟨hd,hrun⟩,hg',go',hH⟩|⟨hw,s',⟨hdst,hskip⟩,hg',go',hH⟩
  ·rw[if_pos hw];refine(Qxx hcx hg'.mem (fun x=>hg'.ev x) hrun).wpIn hd ?_
   rintro v w' ⟨x,H',tch,fg,M',ρ',hadv,hx,hm,hf⟩
   obtain⟨_,hk,_,g1,g2⟩:=Zbf hg' hadv hx hm hf;exact Qp0 hcx hQ rest (k+1) _ M' ρ' _ w' hl' hk g1 ((go.trans go').trans g2)
  ·rw[if_neg (by simp[hw])];refine⟨fun _ _=>trivial,?_⟩;refine Qp0 hcx hQ rest (k+1) _ M ρ _ w hl' hskip (hg'.put hdst (.pv (.lit _))) ((go.trans go').trans ?_);exact⟨Fr.refl ..,rfl,fun _ h=>h,fun _ h=>h⟩
theorem Qvx{cx:Cx}(hcx:cx.Ok){R:Option Nat}{nt id:Nat}{ops:Array Oper}{Q:Exit→St→Prop}{s:St}(h:Qee cx nt ops ops.toList s (Q .normal)):Q9 R cx.P nt (.region id ops false) Q s:=by
 intro B M ρ a w hg;refine wpIn_region ?_;have:=Qp0 hcx (R:=R) (Q:=fun e a' w'=>∃M' ρ' s',Q e s'∧Good B nt M' ρ' s' a' w'∧Z8 M ρ s w M' ρ' s' w') (K:=Q .normal) (fun M' ρ' s' a' w' hk g go=>⟨M',ρ',s',hk,g,go⟩)
  ops.toList 0 s M ρ a w (fun j=>by simp) h hg (Z8.refl ..)
 rw[Array.length_toList]at this;rwa[List.range_eq_range']
def Q8(P:Program)(S:Sem Value)(M:Qc)(ρ:Env)(Sw:World→Prop)(H:List Qa)(K:Qn):Prop:=
 ∃v x,K x H [] []∧Qd M ρ v x∧∀w,Sw w→S.run P w=.ok v w
def Yr(P:Program)(S:Sem Next)(M:Qc)(ρ:Env)(Sw:World→Prop)(H:List Qa)(K:Qn):Prop:=
 ∃v x,K x H [] []∧Qd M ρ v x∧∀w,Sw w→S.run P w=.ok (.value v) w
theorem Q8.same{P:Program}{S:Sem Value}{M:Qc}{ρ:Env}{H:List Qa}{Sw:World→Prop}{K:Qn}{v:Value}{x:SV}(hr:∀w,Sw w→S.run P w=.ok v w)(hx:Qd M ρ v x)(hk:K x H [] []):Q8 P S M ρ Sw H K:=⟨v,x,hk,hx,hr⟩
theorem Yr.same{P:Program}{S:Sem Next}{M:Qc}{ρ:Env}{H:List Qa}{Sw:World→Prop}{K:Qn}{v:Value}{x:SV}(hr:∀w,Sw w→S.run P w=.ok (.value v) w)(hx:Qd M ρ v x)(hk:K x H [] []):Yr P S M ρ Sw H K:=⟨v,x,hk,hx,hr⟩
theorem Q8.toN{P:Program}{S:Sem Value}{M:Qc}{ρ:Env}{H:List Qa}{Sw:World→Prop}{K:Qn}(h:Q8 P S M ρ Sw H K):Yr P (do pure (.value (←S))) M ρ Sw H K:=by obtain⟨v,x,h1,h2,h3⟩:=h;exact⟨v,x,h1,h2,fun w hw=>by simp[Sem.run_bind,h3 w hw]⟩
theorem Quj{P:Program}{M:Qc}{ρ:Env}{H:List Qa}{w0:World}{Sw:World→Prop}{K:Qn}{t:TypeId}{i:TI}(ht:Y5 P t i)(hm:Mem M ρ H w0){b o n r j sz:Nat}{row:List SV}
  (hrow:r<n→∀k x,row[k]? =some x→∃v,(∀w,Sw w→w.cell? ⟨b,o+r*sz+k,none⟩=some v)∧Qd M ρ v x)
  (h:(W9 i n row r j).holds H K):Q8 P (Instr.loadAt t (.pointer (some ⟨b,o+r*sz+j,none⟩))) M ρ Sw H K:=by
 simp only[W9,Qj.holds,decide_eq_true_eq]at h;obtain⟨hr,h⟩:=h;have hrow:=hrow hr;split at h
 ·rename_i hd;simp only[Qj.holds,decide_eq_true_eq]at h;obtain⟨hj,hk⟩:=h;have hex:∀k,k<i.size→∃v,(∀w,Sw w→w.cell? ⟨b,o+r*sz+(j+k),none⟩=some v)∧Qd M ρ v (row.getD (j+k) .any):=fun k hk=>by
   have hlt:j+k<row.length:=by omega
   obtain⟨v,h1,h2⟩:=hrow (j+k) row[j+k] (by simp[hlt]);exact⟨v,h1,by simpa[List.getD,hlt]using h2⟩
  let f:Nat→Value:=fun k=>if h:k<i.size then Classical.choose (hex k h)else undef;have hf:∀k,k<i.size→(∀w,Sw w→w.cell? ⟨b,o+r*sz+(j+k),none⟩=some (f k))∧Qd M ρ (f k) (row.getD (j+k) .any):=fun k hk=>by simp only[f,dif_pos hk];exact Classical.choose_spec (hex k hk)
  have hcs:∀(k:Nat) (v:Value),((List.range i.size).map f)[k]? =some v→k<i.size∧v=f k:=fun k v hv=>by simp only[List.getElem?_map,Option.map_eq_some_iff]at hv;obtain⟨m,hm',rfl⟩:=hv;obtain⟨h1,h2⟩:=List.getElem?_eq_some_iff.1 hm';simp at h1 h2;subst h2;exact⟨h1,rfl⟩
  refine Q8.same (v:=.agg ((List.range i.size).map f).toArray) ?_ ?_ hk
  ·intro w hw;simp only[Instr.loadAt,Instr.sureAddr,Sem.run_bind,Sem.run_pure,Result.andThen_ok];exact Qv6 ht hd _ (by simp) fun k v hv=>by obtain⟨h1,rfl⟩:=hcs k v hv;rw[Nat.add_assoc (o+r*sz)];exact(hf k h1).1 w hw
  ·refine Qd.Y3 (by simp;omega) fun k v x hv hx=>?_;obtain⟨h1,rfl⟩:=hcs k v hv;have h2:=(hf k h1).2;rw[List.getElem?_take]at hx;simp only[h1,if_true,List.getElem?_drop]at hx;simpa[List.getD,hx]using h2
 ·rename_i hd;simp only[Qj.holds,decide_eq_true_eq]at h;obtain⟨hj,hk⟩:=h;obtain⟨v,h1,h2⟩:=hrow j row[j] (by simp[hj]);refine Q8.same (v:=v) ?_ ?_ hk
  ·intro w hw;simp only[Instr.loadAt,Instr.sureAddr,Sem.run_bind,Sem.run_pure,Result.andThen_ok];exact Qkm ht (by simpa using hd) (h1 w hw)
  ·simpa[List.getD,hj]using h2
theorem Znw{M:Qc}{w:World}(hm:∀b o,M b=some o→w.heap[b]? =some o){b k:Nat}{v:Value}(h:M.cell b k=some v):w.cell? ⟨b,k,none⟩=some v:=by
 unfold Qc.cell at h;cases e:M b with
 |none=>simp[e]at h
 |some o=>rw[e]at h;have:=hm b o e;unfold World.cell?;simp only[this];cases o<;>simp_all
theorem Qye{P:Program}{M:Qc}{ρ:Env}{H:List Qa}{w0:World}{Sw:World→Prop}{K:Qn}{t:TypeId}{i:TI}(ht:Y5 P t i)(hm:Mem M ρ H w0)(hS:∀u,Sw u→∀b o,M b=some o→u.heap[b]? =some o){sz r j:Nat}{rows:List (List PV)}{v:Value}(hp:Zb M v (.rptr sz rows r j))
  (h:(W9 i rows.length ((rows.getD r []).map .pv) r j).holds H K):Q8 P (Instr.loadAt t v) M ρ Sw H K:=by
 cases hp with
 |rptr b off _ _ _ k _ hk h0 h1 h2=>rw[hk];refine Quj (w0:=w0) ht hm (fun hr k x hx=>?_) h;simp only[List.getElem?_map,Option.map_eq_some_iff]at hx;obtain⟨q,hq,rfl⟩:=hx;simp[List.getD,hr]at hq;have hk2:k<sz:=Nat.lt_of_lt_of_le (List.getElem?_eq_some_iff.1 hq).1 (h2 r rows[r] (by simp[hr]));obtain⟨u,hu,_⟩:=h0 r k hr hk2;exact⟨u,fun w hw=>Znw (hS w hw) hu,.pv (h1 r rows[r] k q u (by simp[hr]) hq hu)⟩
theorem Zo4{P:Program}{M:Qc}{ρ:Env}{H:List Qa}{w0:World}{Sw:World→Prop}{K:Qn}{t:TypeId}{i:TI}(ht:Y5 P t i)(hm:Mem M ρ H w0){s sz r j:Nat}(hR:∀u,Sw u→∀p,ρ s=some p→u.heap[p.block]? =w0.heap[p.block]?){o:Qa}(ho:H[s]? =some o){v:Value}(ha:Qd M ρ v (.ptr s sz r j))
  (h:(Qeq i o sz r j).holds H K):Q8 P (Instr.loadAt t v) M ρ Sw H K:=by
 unfold Qeq at h;split at h
 ·rename_i ty ity row ll q;split at h
  ·exact h.elim
  ·rename_i hd;obtain⟨hc,hc2,h⟩:=h;have e1:=Nat.eq_of_beq_eq_true hc;have e2:=of_decide_eq_true hc2;cases ha with
   |ptr _ _ _ _ k p hp hk=>
    obtain⟨p',hp',hn⟩:∃p',ρ s=some p'∧Qbl M ρ w0 p' ty ity row ll (some q):=by
     rcases hm.own s _ ho with⟨_,_,h3⟩|h3
     ·cases h3
     ·exact h3
    rw[hp]at hp';cases hp';obtain⟨cs,bl,a1,a2,a3,a4,a5,a6,a7,a8⟩:=hn.ex;obtain⟨q1,q2⟩:=q;have hk':k=q1:=by have:=norm_eq sz r j 1;rw[e1,e2]at this;simp only[Nat.mul_one,Nat.add_zero]at this;omega
    obtain⟨b1,b2⟩:=a6 q1 q2 rfl;obtain⟨u,hu,_⟩:=a4 q1 b1;refine Q8.same (v:=u) (fun w hw=>?_) (b2 u hu) h;simp only[Instr.loadAt,Instr.sureAddr,Sem.run_bind,Sem.run_pure,Result.andThen_ok];exact Qkm ht hd (by rw[hk'];simp[World.cell?,hR w hw p hp,a1,hu])
 ·exact h.elim
theorem Zat{P:Program}{tab:Qk}(htab:Qx P tab){M:Qc}{ρ:Env}{H:List Qa}{w0:World}{Sw:World→Prop}{K:Qn}(hm:Mem M ρ H w0)(hS:∀u,Sw u→∀b o,M b=some o→u.heap[b]? =some o){R:List Nat}(hR:∀u,Sw u→∀s∈R,∀p,ρ s=some p→u.heap[p.block]? =w0.heap[p.block]?)
  {t:TypeId} {a:SV} {v:Value} (ha:Qd M ρ v a) (hin:∀s sz r j,a=.ptr s sz r j→s∈R)
  (h:(Qaf tab H t a).holds H K):Q8 P (Instr.loadAt t v) M ρ Sw H K:=by
 unfold Qaf at h;split at h
 ·exact h.elim
 ·rename_i i hi;have ht:=htab.get hi;split at h
  ·rename_i s sz r j;split at h
   ·exact h.elim
   ·rename_i o ho;split at h
    ·exact Zo4 ht hm (fun u hu p hp=>hR u hu s (hin _ _ _ _ rfl) p hp) ho ha h
    ·rename_i szo hz;cases ha with
     |ptr _ _ _ _ k p hp hk=>
      obtain⟨cs,ty,a1,a2,a3,a4,a5⟩:=((hm.own s o ho).rowOf hz hp).ex;have hk':k=0+(norm sz r j szo).1*szo+(norm sz r j szo).2:=by rw[Nat.zero_add,norm_eq];exact hk
      rw[hk'];obtain⟨hfit,h⟩:=h;rw[Qos hfit]at h;refine Quj (w0:=w0) ht hm (fun hr k x hx=>?_) h;obtain⟨b1,b2⟩:=a5 _ k x hr hx;obtain⟨u,hu,_⟩:=a4 _ k hr b1;exact⟨u,fun w hw=>by simp[World.cell?,hR w hw s (hin _ _ _ _ rfl) p hp,a1,hu],b2 u hu⟩
  ·rename_i sz rows r j;cases ha with
   |pv hp=>exact Qye (w0:=w0) ht hm hS hp h
  ·rename_i row l r j;cases ha with
   |pv hp=>cases hp with
    |tptr _ _ _ _ hp=>exact Qye (w0:=w0) ht hm hS hp (Zaf h)
  ·exact h.elim
theorem Zu9{P:Program}{tab:Qk}(htab:Qx P tab){M:Qc}{ρ:Env}{H:List Qa}{w0:World}{Sw:World→Prop}{K:Qn}(hm:Mem M ρ H w0){t f:Nat}{x:SV}{v:Value}(hx:Qd M ρ v x)
  (h:(U1 tab t x f).holds H K):Q8 P (Instr.fieldAt t v f) M ρ Sw H K:=by
 unfold U1 at h;split at h
 ·rename_i fields sz' by' zr rw' hte;have htt:=htab.get hte;split at h
  ·exact h.elim
  ·rename_i fd hfd;split at h
   ·exact h.elim
   ·rename_i i hi;obtain⟨n,hn,i1,_⟩:=(htab.get hi).inf;split at h
    ·exact h.elim
    ·rename_i hz;have key:∀(w:World) b k,(Instr.fieldAt t (.pointer (some ⟨b,k,none⟩)) f).run P w=.ok (.pointer (some ⟨b,k+fd.offset,none⟩)) w:=fun w b k=>by simp[Instr.fieldAt,run_underlying htt.und,hfd,Instr.sureAddr,fieldPlace,sizeOf,typeInfo,hn,i1,hz,Addr.add_mid]
     split at h
     ·rename_i s sz r j;cases hx with
      |ptr _ _ _ _ k p hp hk=>exact Q8.same (fun w _=>key w _ _) (.ptr _ _ _ _ _ p hp (by omega)) h
     ·rename_i sz rows r j;cases hx with
      |pv hp=>cases hp with
       |rptr b off _ _ _ k _ hk h0 h1 h2=>exact Q8.same (fun w _=>key w _ _) (.pv (.rptr b off sz r (j+fd.offset) _ rows (by omega) h0 h1 h2)) h
     ·exact h.elim
 ·exact h.elim
theorem Zln{P:Program}{tab:Qk}(htab:Qx P tab){M:Qc}{ρ:Env}{H:List Qa}{w0:World}{Sw:World→Prop}{K:Qn}(hm:Mem M ρ H w0){t:Nat}{x ix:SV}{v u:Value}(hx:Qd M ρ v x)(hix:Qd M ρ u ix)
  (h:(Qab tab t x ix).holds H K):Q8 P (Instr.indexAt t v u) M ρ Sw H K:=by
 unfold Qab at h;split at h
 ·rename_i k n;have:=hix.Q7;subst this;split at h
  ·rename_i e sz' by' zr rw' hte;have htt:=htab.get hte;split at h
   ·exact h.elim
   ·rename_i i hi;have ht:=htab.get hi;split at h
    ·rename_i s sz st len;split at h
     ·rename_i hsz;subst hsz;simp only[Qj.holds,decide_eq_true_eq]at h;obtain⟨h0,h1,h⟩:=h;cases hx with
      |sl _ _ _ _ c k' p hp hk hc hn h6=>refine Q8.same (fun w _=>(Qkl htt.und ht h0 h1)) (.ptr _ _ _ _ _ p hp ?_) h;rw[hk,Nat.add_mul];omega
      |slz=>simp at h1;omega
     ·exact h.elim
    ·rename_i sz rows;split at h
     ·rename_i hsz;subst hsz;simp only[Qj.holds,decide_eq_true_eq]at h;obtain⟨h0,h1,h⟩:=h;cases hx with
      |pv hp=>cases hp with
       |rnil=>simp at h1;omega
       |remp=>simp at h1;omega
       |rsl b off c _ n' _ hn hc g0 g1 g2=>refine Q8.same (fun w _=>(Qkl htt.und ht h0 (by omega))) (.pv (.rptr b off i.size n.toNat 0 _ rows (by omega) g0 g1 g2)) h
     ·exact h.elim
    ·exact h.elim
  ·rename_i m e sz' by' zr rw' hte;have htt:=htab.get hte;split at h
   ·exact h.elim
   ·rename_i i hi;have ht:=htab.get hi;split at h
    ·rename_i s sz r j;simp only[Qj.holds,decide_eq_true_eq]at h;obtain⟨h0,h1,h⟩:=h;cases hx with
     |ptr _ _ _ _ k' p hp hk=>exact Q8.same (fun w _=>(Ql9 htt.und ht h0 h1)) (.ptr _ _ _ _ _ p hp (by omega)) h
    ·rename_i sz rows r j;simp only[Qj.holds,decide_eq_true_eq]at h;obtain⟨h0,h1,h⟩:=h;cases hx with
     |pv hp=>cases hp with
      |rptr b off _ _ _ k' _ hk g0 g1 g2=>exact Q8.same (fun w _=>(Ql9 htt.und ht h0 h1)) (.pv (.rptr b off sz r _ _ rows (by omega) g0 g1 g2)) h
    ·exact h.elim
  ·exact h.elim
 ·exact h.elim
theorem Zng{P:Program}{tab:Qk}(htab:Qx P tab){M:Qc}{ρ:Env}{H:List Qa}{w0:World}{Sw:World→Prop}{K:Qn}(hm:Mem M ρ H w0){t:Nat}{x:SV}{lo hi:Option SV}{v:Value}{vl vh:Option Value}
  (hx:Qd M ρ v x) (hsl:vl.isSome=lo.isSome) (hrl:∀v x,vl=some v→lo=some x→Qd M ρ v x) (hsh:vh.isSome=hi.isSome) (hrh:∀v x,vh=some v→hi=some x→Qd M ρ v x)
  (h:(Qbx tab H t x lo hi).holds H K):Q8 P (Instr.sliceAt t v vl vh none) M ρ Sw H K:=by
 unfold Qbx at h;split at h
 ·rename_i e sz' by' zr rw' hte;have htt:=htab.get hte;split at h
  ·exact h.elim
  ·rename_i i hi';have ht:=htab.get hi';split at h
   ·rename_i s sz st len;split at h
    ·rename_i hsz;subst hsz;split at h
     ·rename_i l hh e1 e2;simp only[Qj.holds,decide_eq_true_eq]at h;obtain⟨h0,h1,h2,h⟩:=h;have bl:=Yv hsl hrl e1;have bh:=Yv hsh hrh e2;cases hx with
      |sl _ _ _ _ c k p hp hk hc hn h6=>
       refine Q8.same (fun w _=>(Jc htt.und ht bl bh h0 h1 (by omega))) ?_ h;by_cases hcl:c=l.toNat
       ·have e0:hh.toNat-l.toNat=0:=by omega
        rw[if_pos hcl,e0,hcl,Nat.sub_self];exact .slz _ _ _ _
       ·rw[if_neg hcl];simp only[Option.map_some,Addr.add_mid];refine .sl _ _ _ _ _ _ p hp (by rw[hk,Nat.add_mul]) ?_ (by omega) (by omega);rw[show st+l.toNat+(c-l.toNat)=st+c by omega];exact hc
      |slz a b c' a'=>
       refine Q8.same (fun w _=>(Jc htt.und ht bl bh h0 h1 (by omega))) ?_ h;have hl0:l.toNat=0:=by omega
       have hh0:hh.toNat=0:=by omega
       rw[hl0,hh0];simp only[Nat.sub_self,if_true];exact .slz _ _ _ _
     ·exact h.elim
    ·exact h.elim
   ·rename_i s sz st len m;split at h
    ·rename_i hsz;subst hsz;split at h
     ·rename_i l hh e1 e2;simp only[Qj.holds,decide_eq_true_eq]at h;obtain⟨h0,h1,h2,h⟩:=h;have bl:=Yv hsl hrl e1;have bh:=Yv hsh hrh e2;cases hx with
      |slb _ _ _ _ _ hx hmc=>
      obtain⟨_,_,c9,e9,hmc⟩:=hmc;cases hx with
      |sl _ _ _ _ c k p hp hk hc hn h6=>
       injection e9 with _ _ e9;subst e9;refine Q8.same (fun w _=>(Jc htt.und ht bl bh h0 h1 (by omega))) ?_ h;by_cases hcl:c=l.toNat
       ·have e0:hh.toNat-l.toNat=0:=by omega
        have e00:m-l.toNat=0:=by omega
        rw[if_pos hcl,e0,e00,hcl,Nat.sub_self];exact .slb _ _ _ _ _ (.slz _ _ _ _) ⟨_,_,_,rfl,Nat.le_refl _⟩
       ·rw[if_neg hcl];simp only[Option.map_some,Addr.add_mid];refine .slb _ _ _ _ _ (.sl _ _ _ _ _ _ p hp (by rw[hk,Nat.add_mul]) ?_ (by omega) (by omega)) ⟨_,_,_,rfl,by omega⟩;rw[show st+l.toNat+(c-l.toNat)=st+c by omega];exact hc
      |slz a b c' a'=>
       injection e9 with _ _ e9;subst e9;refine Q8.same (fun w _=>(Jc htt.und ht bl bh h0 h1 (by omega))) ?_ h;have hl0:l.toNat=0:=by omega
       have hh0:hh.toNat=0:=by omega
       have hm0:m=0:=by omega
       subst hm0;rw[hl0,hh0];simp only[Nat.sub_self,if_true];exact .slb _ _ _ _ _ (.slz _ _ _ _) ⟨_,_,_,rfl,Nat.le_refl _⟩
     ·exact h.elim
    ·exact h.elim
   ·rename_i sz rows;split at h
    ·rename_i hsz;subst hsz;split at h
     ·rename_i l hh e1 e2;simp only[Qj.holds,decide_eq_true_eq]at h;obtain⟨h0,h1,h2,h⟩:=h;have bl:=Yv hsl hrl e1;have bh:=Yv hsh hrh e2;cases hx with
      |pv hp=>
       have hlen:((rows.take hh.toNat).drop l.toNat).length=hh.toNat-l.toNat:=by simp;omega
       cases hp with
       |rnil=>
        refine Q8.same (fun w _=>(Jc htt.und ht bl (by simpa using bh) h0 h1 (by simpa using h2))) ?_ h;have hl0:l.toNat=0:=by simp at h2;omega
        have hh0:hh.toNat=0:=by simp at h2;omega
        rw[hl0,hh0];simp;exact .pv (.rnil _)
       |remp a c=>
        refine Q8.same (fun w _=>(Jc htt.und ht bl (by simpa using bh) h0 h1 (by simp at h2;omega))) ?_ h;have hl0:l.toNat=0:=by simp at h2;omega
        have hh0:hh.toNat=0:=by simp at h2;omega
        rw[hl0,hh0];simp only[List.take_nil,List.drop_nil,Nat.sub_zero,Nat.zero_mul];split
        ·exact .pv (.remp _ _ _)
        ·exact .pv (.remp _ _ _)
       |rsl b off c _ n' _ hn hc g0 g1 g2=>
        subst hn;refine Q8.same (fun w _=>(Jc htt.und ht bl bh h0 h1 (by omega))) ?_ h;by_cases hcl:c=l.toNat
        ·have e0:hh.toNat-l.toNat=0:=by omega
         have:(rows.take hh.toNat).drop l.toNat=[]:=List.eq_nil_of_length_eq_zero (by rw[hlen,e0]);rw[if_pos hcl,this,e0,hcl,Nat.sub_self];exact .pv (.remp _ _ _)
        ·rw[if_neg hcl];simp only[Option.map_some,Addr.add_mid];have at':∀(m:Nat) (r:List PV),((rows.take hh.toNat).drop l.toNat)[m]? =some r→rows[l.toNat+m]? =some r:=fun m r hm'=>by
          rw[List.getElem?_drop,List.getElem?_take]at hm';split at hm'
          ·exact hm'
          ·cases hm'
         have mul:∀m j:Nat,off+l.toNat*i.size+m*i.size+j=off+(l.toNat+m)*i.size+j:=fun m j=>by rw[Nat.add_mul];omega
         refine .pv (.rsl b (off+l.toNat*i.size) (c-l.toNat) i.size _ _ hlen.symm (by omega) (fun m j hm' hj=>?_) (fun m r j p u hm' hj hu=>?_) (fun m r hm'=>g2 _ r (at' m r hm')))
         ·rw[mul];rw[hlen]at hm';exact g0 _ j (by omega) hj
         ·rw[mul]at hu;exact g1 _ r j p u (at' m r hm') hj hu
     ·exact h.elim
    ·exact h.elim
   ·split at h
    ·rename_i l hh e1 e2;simp only[Qj.holds,decide_eq_true_eq]at h;obtain⟨h0,h1,h⟩:=h;have:=hx.Q7;subst this;subst h0;subst h1;have bl:=Yv hsl hrl e1;have bh:=Yv hsh hrh e2;have:=fun w (_:Sw w)=>Jc (w:=w) (a:=none) (len:=0) (cap:=0) htt.und ht bl (by simpa using bh) (Int.le_refl _) (Int.le_refl _) (by simp);exact Q8.same this (.pv (.lit _)) h
    ·exact h.elim
   ·exact h.elim
 ·rename_i sz' by' zr rw' hte;have htt:=htab.get hte;split at h
  ·rename_i b;split at h
   ·rename_i l hh e1 e2;simp only[Qj.holds,decide_eq_true_eq]at h;obtain⟨h0,h1,h2,h⟩:=h;have:=hx.Q7;subst this;have bl:=Yv hsl hrl e1;have bh:=Yv hsh hrh e2;refine Q8.same ?_ (.pv (.lit _)) h;have hu:P.underlying t=some .string:=htt.und;simp[Instr.sliceAt,Instr.slice,run_underlying hu,Qfy bl bh h0 h1 h2]
   ·exact h.elim
  ·exact h.elim
 ·exact h.elim
 ·rename_i n e sz' by' zr rw' hte;have htt:=htab.get hte;split at h
  ·exact h.elim
  ·rename_i i hi';have ht:=htab.get hi';obtain⟨inf,hinf,i1,_⟩:=ht.inf;split at h
   ·rename_i s sz r j;split at h
    ·exact h.elim
    ·rename_i o ho;split at h
     ·rename_i szo l hh hz e1 e2;split at h
      ·exact h.elim
      ·rename_i hi0;simp only[Qj.holds,decide_eq_true_eq]at h;obtain⟨hdiv,hfit,h0,h1,h2,h⟩:=h;have bl:=Yv hsl hrl e1;have bh:=Yv hsh hrh e2;cases hx with
       |ptr _ _ _ _ k p hp hk=>
        obtain⟨cs,ty,a1,a2,a3,a4,a5⟩:=((hm.own s o ho).rowOf hz hp).ex;have hrun:∀w,(Instr.sliceAt t (.pointer (some ⟨p.block,k,none⟩)) vl vh none).run P w=.ok (.slice (some (if n=l.toNat then⟨p.block,k,none⟩else⟨p.block,k+l.toNat*i.size,none⟩)) (hh.toNat-l.toNat) (n-l.toNat)) w:=fun w=>by have hu:P.underlying t=some (.array n e):=htt.und;simp[Instr.sliceAt,run_underlying hu,Instr.sureAddr,Qfy bl bh h0 h1 h2,sizeOf,typeInfo,hinf,i1,Addr.add_mid]
        refine Q8.same (fun w _=>hrun w) ?_ h;by_cases hcl:n=l.toNat
        ·have e0:hh.toNat-l.toNat=0:=by omega
         have e1':n-l.toNat=0:=by omega
         rw[if_pos hcl,e0,e1'];exact .slz _ _ _ _
        ·rw[if_neg hcl];have hb:(r*sz+j)/i.size*i.size=r*sz+j:=by have:=Nat.div_add_mod' (r*sz+j) i.size;omega
         refine .sl _ _ _ _ _ _ p hp (by rw[Nat.add_mul,hb,hk]) ?_ (by omega) (by omega);rw[show(r*sz+j)/i.size+l.toNat+(n-l.toNat)=(r*sz+j)/i.size+n by omega,Nat.add_mul,hb];omega
     ·exact h.elim
   ·exact h.elim
 ·exact h.elim
theorem Zlo{P:Program}{tab:Qk}(htab:Qx P tab){M:Qc}{ρ:Env}{H:List Qa}{w0:World}{Sw:World→Prop}{K:Qn}(hm:Mem M ρ H w0){t ty:Nat}{x:SV}{v:Value}(hx:Qd M ρ v x)(hnm:∀s,x≠.mp s)
  (h:(Qaz tab H t x).holds H K):Q8 P (Builtin.len_ #[t] ty #[v]) M ρ Sw H K:=by
 unfold Qaz at h;split at h
 ·rename_i e sz' by' zr rw' hte;have hu:P.underlying t=some (.slice e):=(htab.get hte).und;have key:∀(w:World) a n c,(Builtin.len_ #[t] ty #[.slice a n c]).run P w=.ok (.int .i64 n) w:=fun w a n c=>by simp[Builtin.len_,run_underlying hu,goInt]
  split at h
  ·rename_i s sz st len;cases hx with
   |sl _ _ _ _ c k p hp hk hc hn h6=>exact Q8.same (fun w _=>key w _ _ _) (.pv (.lit _)) h
   |slz=>exact Q8.same (fun w _=>key w _ _ _) (.pv (.lit _)) h
  ·cases hx with
   |slb _ _ _ _ _ hx hmc=>
   cases hx with
   |sl _ _ _ _ c k p hp hk hc hn h6=>exact Q8.same (fun w _=>key w _ _ _) (.pv (.lit _)) h
   |slz=>exact Q8.same (fun w _=>key w _ _ _) (.pv (.lit _)) h
  ·cases hx with
   |pv hp=>cases hp with
    |rnil=>exact Q8.same (fun w _=>key w _ _ _) (.pv (.lit _)) h
    |remp=>exact Q8.same (fun w _=>key w _ _ _) (.pv (.lit _)) h
    |rsl b off c _ n' _ hn hc g0 g1 g2=>subst hn;exact Q8.same (fun w _=>key w _ _ _) (.pv (.lit _)) h
  ·have:=hx.Q7;subst this;exact Q8.same (fun w _=>key w _ _ _) (.pv (.lit _)) h
  ·exact h.elim
 ·rename_i sz' by' zr rw' hte;have hu:P.underlying t=some .string:=(htab.get hte).und;split at h
  ·have:=hx.Q7;subst this;exact Q8.same (fun w _=>by simp[Builtin.len_,run_underlying hu,goInt]) (.pv (.lit _)) h
  ·exact h.elim
 ·rename_i kk ee sz' by' zr rw' hte;have hu:P.underlying t=some (.map kk ee):=(htab.get hte).und;split at h
  ·rename_i s;exact(hnm s rfl).elim
  ·have:=hx.Q7;subst this;exact Q8.same (fun w _=>by simp[Builtin.len_,run_underlying hu,goInt]) (.pv (.lit _)) h
  ·exact h.elim
 ·rename_i n e sz' by' zr rw' hte;have hu:P.underlying t=some (.array n e):=(htab.get hte).und;refine Q8.same ?_ (.pv (.lit _)) h;simp[Builtin.len_,run_underlying hu,goInt]
 ·exact h.elim
theorem Us{P:Program}{M:Qc}{ρ:Env}{H:List Qa}{w0:World}{Sw:World→Prop}{K:Qn}{ev:Operand→SV}{va:Operand→Value}(hm:Mem M ρ H w0)(hev:∀x,Qd M ρ (va x) (ev x)){o:Oper}
  (h:(J4 P ev o).holds H K):Yr P (execOp va o) M ρ Sw H K:=by
 unfold J4 at h;split at h
 ·rename_i hc;simp only[Bool.and_eq_true,Bool.not_eq_true']at hc;split at h
  ·rename_i v hv;have he:execOp va o=execOp (fun x=>(ev x).Qmr) o:=by refine execOp_congr o (fun cs b hsel=>by rw[hsel]at hc;simp[Qrf]at hc) fun x hx=>?_;have:=Array.all_eq_true_iff_forall_mem.1 hc.2 x hx;exact Qv3 (hev x) this
   rw[he];exact Yr.same (fun w _=>Qb0 hv w) (.pv (.lit _)) h
  ·exact h.elim
 ·exact h.elim
theorem Zl7{P:Program}{tab:Qk}(htab:Qx P tab){M:Qc}{ρ:Env}{H:List Qa}{w0:World}{Sw:World→Prop}{K:Qn}{ev:Operand→SV}{va:Operand→Value}(hm:Mem M ρ H w0)(hev:∀x,Qd M ρ (va x) (ev x)){o:Oper}
  {op:BinOp} {t t':TypeId} {x y:Operand} (ho:o.op=.binOp op t x y t') (h:(Qfw P tab ev o op t (ev x) (ev y)).holds H K):Yr P (execOp va o) M ρ Sw H K:=by
 have hx:=hev x;have hy:=hev y;have exec:execOp va o=(do pure (.value (←(do eqGuard op t x y (va x) (va y);binOp op t (va x) (va y))))):=by simp[execOp,ho]
 unfold Qfw at h;split at h<;>first
  | (rename_i e1 e2
     rw[e1]at hx;rw[e2]at hy;have ex:=hx.Q7;have ey:=hy.Q7;rw[exec,ex,ey];simp only[Qj.holds]at h
     first
    | (refine Yr.same ?_ (.pv (.lit _)) h
       intro w _;simp[Sem.run_bind,Jv,binOp,Op.intArith,w64];done)
    | (obtain ⟨hn,h⟩ := h
       first
      | (have hz := of_decide_eq_true hn
         refine Yr.same ?_ (.pv (.lit _)) h;intro w _;simp[Sem.run_bind,Jv,binOp,Op.intDiv,hz,w64];done)
      | (have hz := Int.not_lt.2 (of_decide_eq_true hn)
         refine Yr.same ?_ (.pv (.lit _)) h;intro w _;simp only[Sem.run_bind,Jv,Result.andThen_ok,binOp,Op.shift,if_neg hz,Sem.run_pure];rfl)
      | (have hz := Int.not_lt.2 (of_decide_eq_true hn)
         refine Yr.same ?_ (.pv (.lit _)) h;intro w _;simp only[Sem.run_bind,Qcz,Result.andThen_ok,binOp,Op.stringOp,gt_iff_lt,if_neg hz,Sem.run_pure];done)
      | (obtain ⟨hn2,h⟩ := h
         have hz:=of_decide_eq_true hn;refine Yr.same ?_ (.pv (.lit _)) h;intro w _;simp[Sem.run_bind,Jv,binOp,Op.intDiv,hz,Zba hn2];done))
    | (refine Yr.same ?_ (.pv (.lit _)) h
       intro w _;simp[Sem.run_bind,Jv,Qcz,binOp,Op.intCmp,Op.stringOp,bne];done)
    | (refine Yr.same ?_ (.pv (.lit _)) h
       intro w _;simp only[Sem.run_bind,Jv,Qcz,Result.andThen_ok,binOp,Op.intCmp,Op.stringOp,Quk];rfl))
  | (split at h
     · rename_i neg hk
       split at h
       · rename_i hc
         simp only[Bool.and_eq_true]at hc;obtain⟨v,hk2,hrun⟩:=Zas htab hx hy hc.1 hc.2 h;have ho:=Qto hk;rw[exec,ho];refine Yr.same (fun w _=>?_) (.pv (.lit _)) hk2;have:=hrun w;simp only[Sem.run_bind]at this⊢;simp[this]
       · exact h.elim
     · split at h
       · rename_i r hr
         have hrun:=Qvp (P:=P) (t:=t) hx hy hr;rw[exec];refine Yr.same (fun w _=>?_) (.pv (.lit _)) h;have:=hrun w x y;simp only[Sem.run_bind]at this⊢;simp[this]
       · exact Us (w0:=w0) hm hev h)
theorem Zse{P:Program}{tab:Qk}(htab:Qx P tab){M:Qc}{ρ:Env}{H:List Qa}{w0:World}{Sw:World→Prop}{K:Qn}(hm:Mem M ρ H w0){t f:Nat}{x:SV}{v:Value}(hx:Qd M ρ v x)
  (h:(Qg7 tab t x f).holds H K):Q8 P (Instr.field t v f) M ρ Sw H K:=by
 unfold Qg7 at h;split at h
 ·rename_i l fields sz' by' zr rw' hte;have hu:P.underlying t=some (.struct fields):=(htab.get hte).und;cases hx with
  |agg cs _ hl hr=>
   split at h
   ·exact h.elim
   ·rename_i fd hfd;split at h
    ·exact h.elim
    ·rename_i i hi;have ht:=htab.get hi;obtain⟨inf,hinf,i1,_⟩:=ht.inf;split at h
     ·rename_i hd;simp only[Qj.holds,decide_eq_true_eq]at h;obtain⟨hle,h⟩:=h;refine Q8.same (v:=.agg (cs.extract fd.offset (fd.offset+i.size))) ?_ ?_ h
      ·simp[Instr.field,run_underlying hu,hfd,asAgg,part,Qdc ht,hd,sizeOf,typeInfo,hinf,i1]
      ·have:=Qd.Y3 (M:=M) (ρ:=ρ) (cs:=(cs.extract fd.offset (fd.offset+i.size)).toList) (l:=(l.drop fd.offset).take i.size) (by simp;omega) (fun k v x hv hx=>by
        rw[List.getElem?_take]at hx;split at hx
        ·rename_i hk;rw[List.getElem?_drop]at hx;rw[Array.getElem?_toList,Array.getElem?_extract]at hv;split at hv
         ·exact hr _ v x hv hx
         ·cases hv
        ·cases hx)
       rwa[Array.toArray_toList]at this
     ·rename_i hd;simp only[Qj.holds,decide_eq_true_eq]at h;obtain⟨hle,h⟩:=h;have hlt:fd.offset<cs.size:=by omega
      refine Q8.same (v:=cs[fd.offset]) ?_ ?_ h
      ·simp[Instr.field,run_underlying hu,hfd,asAgg,part,Qdc ht,hd,hlt]
      ·rw[List.getD_eq_getElem?_getD,List.getElem?_eq_getElem hle];exact hr fd.offset _ _ (by simp[hlt]) (by simp[hle])
 ·exact h.elim
theorem Qq5{P:Program}{tab:Qk}(htab:Qx P tab){M:Qc}{ρ:Env}{H:List Qa}{w0:World}{Sw:World→Prop}{K:Qn}(hm:Mem M ρ H w0){R:List Nat}(hR:∀u,Sw u→∀s∈R,∀p,ρ s=some p→u.heap[p.block]? =w0.heap[p.block]?)
  {t:Nat} {m k:SV} {vm vk:Value} {ok:Bool} (hmr:Qd M ρ vm m) (hkr:Qd M ρ vk k) (hin:∀s,m=.mp s→s∈R)
  (h:(Qaq P tab H t m k ok).holds H K):Q8 P (Instr.lookup t vm vk ok) M ρ Sw H K:=by
 unfold Qaq at h;split at h
 ·rename_i kt et sz' by' zr rw' hte;have hu:P.underlying t=some (.map kt et):=(htab.get hte).und;split at h
  ·rename_i kv;have:=hkr.Q7;subst this;split at h
   ·rename_i s;split at h
    ·rename_i es c ho;split at h
     ·rename_i hko;cases hmr with
      |mp _ p hp=>
       obtain⟨arr,hheap,hrep⟩:=(hm.own s _ ho).Qca hp;have hempty:arr.isEmpty=es.isEmpty:=by have:=hrep.sz;simp only[Array.isEmpty,this];cases es<;>simp
       have hget:∀u,Sw u→(getObj p.block).run P u=.ok (.map arr c) u:=fun u hu'=>run_getObj_map (P:=P) (by rw[hR u hu' s (hin s rfl) p hp];exact hheap);have hkey:∀u,_:=fun u=>Qag hko u;rw[←hempty]at hkey;split at h
       ·rename_i j hj;obtain⟨e,x,a1,a2,a3,a4,a5,a6⟩:=(V8 (P:=P) (kt:=kt) (k:=vk) hrep w0).2 j hj;rw[a2]at h;simp only at h;refine Q8.same ?_ (V0 (ok:=ok) (b:=true) a5) h;intro u hw;obtain⟨e',x',b1,_,_,_,_,b6⟩:=(V8 (P:=P) (kt:=kt) (k:=vk) hrep u).2 j hj;rw[a1]at b1;cases b1;simp[Instr.lookup,run_underlying hu,hget u hw,hkey u,b6]
       ·rename_i hj;split at h
        ·rename_i i hi;refine Q8.same ?_ (V0 (ok:=ok) (b:=false) (.pv (.lit _))) h;intro u hw;simp[Instr.lookup,run_underlying hu,hget u hw,hkey u,(V8 (P:=P) (kt:=kt) (k:=vk) hrep u).1 hj,Vy (htab.get hi)]
        ·exact h.elim
       ·exact h.elim
     ·exact h.elim
    ·exact h.elim
   ·split at h
    ·rename_i hko;have:=hmr.Q7;subst this;split at h
     ·rename_i i ik hi hik;refine Q8.same ?_ (V0 (ok:=ok) (b:=false) (.pv (.lit _))) h;intro w _;have hkey:=Qag hko w;have hnone:(Instr.findKey kt vk []).run P w=.ok none w:=by simp only[Instr.findKey,Instr.findNow,Sem.run_bind,run_underlying (htab.get hik).und,Result.andThen_ok,Sem.run_pure]
      simp[Instr.lookup,run_underlying hu,hkey,hnone,Vy (htab.get hi)]
     ·exact h.elim
    ·exact h.elim
   ·exact h.elim
  ·exact h.elim
 ·exact h.elim
theorem Zpm{P:Program}{tab:Qk}(htab:Qx P tab){M:Qc}{ρ:Env}{H:List Qa}{w0:World}{Sw:World→Prop}{K:Qn}(hm:Mem M ρ H w0){R:List Nat}(hR:∀u,Sw u→∀s∈R,∀p,ρ s=some p→u.heap[p.block]? =w0.heap[p.block]?)
  {t:Nat} {m k:SV} {vm vk:Value} {ok:Bool} (hmr:Qd M ρ vm m) (hkr:Qd M ρ vk k) (hin:∀s,m=.mp s→s∈R)
  (h:(Qf6 P tab H t m k ok).holds H K):Q8 P (Instr.lookup t vm vk ok) M ρ Sw H K:=by
 unfold Qf6 at h;split at h
 ·rename_i s;split at h
  ·rename_i ka va l ho;split at h
   ·rename_i kt et _ _ _ _ hte;cases hmr with
    |mp _ p hp=>obtain⟨arr,hheap,hrep⟩:=X5.rep (hm.own s _ ho) hp;obtain⟨v,x,h1,h2,h3⟩:=Qvo htab hkr h hrep;exact Q8.same (fun u hu=>h3 u t p.block _ (htab.get hte).und (by rw[hR u hu s (hin s rfl) p hp];exact hheap)) h2 h1
   ·exact h.elim
  ·rename_i es c ho;split at h
   ·rename_i kt et _ _ _ _ hte;split at h
    ·split at h
     ·cases hmr with
      |mp _ p hp=>obtain⟨arr,hheap,hrep⟩:=(hm.own s _ ho).Qca hp;obtain⟨v,x,h1,h2,h3⟩:=Qv7 htab hkr h hrep;exact Q8.same (fun u hu=>h3 u t p.block _ (htab.get hte).und (by rw[hR u hu s (hin s rfl) p hp];exact hheap)) h2 h1
     ·exact Qq5 htab hm hR hmr hkr hin h
    ·exact h.elim
   ·exact h.elim
  ·exact Qq5 htab hm hR hmr hkr hin h
 ·exact Qq5 htab hm hR hmr hkr hin h
theorem Zmb{P:Program}{tab:Qk}(htab:Qx P tab){M:Qc}{ρ:Env}{H:List Qa}{Sw:World→Prop}{K:Qn}{t:Nat}{vp:Array (Nat×Value)}{sp:List (Nat×SV)}
  (hl:vp.size=sp.length) (hp:∀(k:Nat) (a:Nat×Value) (b:Nat×SV),vp.toList[k]? =some a→sp[k]? =some b→a.1=b.1∧Qd M ρ a.2 b.2)
  (h:(Qfq P tab t sp).holds H K):Q8 P (Instr.build t vp) M ρ Sw H K:=by
 unfold Qfq at h;split at h
 ·exact h.elim
 ·rename_i i hi;have ht:=htab.get hi;have hz:=fun w=>Vy ht w;split at h
  ·rename_i fields hd;have hu:P.underlying t=some (.struct fields):=by rw[ht.und,hd]
   split at h
   ·exact h.elim
   ·rename_i places hpl;split at h
    ·exact h.elim
    ·rename_i l hf;obtain⟨cs',g1,g2⟩:=Qco (M:=M) (ρ:=ρ) (Qiy ht) (by simpa using hl) hp hf;refine Q8.same (v:=.agg cs') ?_ ?_ h
     ·intro w _;have hrun:=Qb0 hpl w;simp only[Qoj,Sem.run_bind,run_underlying hu,Result.andThen_ok]at hrun;simp only[Instr.build,Sem.run_bind,hz,Result.andThen_ok,run_underlying hu,hrun];rw[g1];rfl
     ·have:=Qd.Y3 (M:=M) (ρ:=ρ) (cs:=cs'.toList) (l:=l) (by simpa using g2.sz) (fun k v x hv hx=>g2.rep k v x (by rw[←Array.getElem?_toList];exact hv) hx);simpa using this
  ·rename_i n e hd;have hu:P.underlying t=some (.array n e):=by rw[ht.und,hd]
   split at h
   ·exact h.elim
   ·rename_i ie hie;obtain⟨inf,hinf,i1,_⟩:=(htab.get hie).inf;split at h
    ·exact h.elim
    ·rename_i l hf;obtain⟨cs',g1,g2⟩:=Qco (M:=M) (ρ:=ρ) (Qiy ht) (by simpa using hl) hp hf;refine Q8.same (v:=.agg cs') ?_ ?_ h
     ·intro w _;simp only[Instr.build,Sem.run_bind,hz,Result.andThen_ok,run_underlying hu,sizeOf,typeInfo,run_program,hinf,Sem.run_pure,i1];rw[g1];rfl
     ·have:=Qd.Y3 (M:=M) (ρ:=ρ) (cs:=cs'.toList) (l:=l) (by simpa using g2.sz) (fun k v x hv hx=>g2.rep k v x (by rw[←Array.getElem?_toList];exact hv) hx);simpa using this
  ·exact h.elim
theorem Q8.seen{P:Program}{S:Sem Value}{M:Qc}{ρ:Env}{Sw:World→Prop}{H:List Qa}{K:Qn}(h:Q8 P S M ρ Sw H (Seen K)):Q8 P S M ρ Sw H K:=by obtain⟨v,x,⟨y,hy,hk⟩,hx,hr⟩:=h;exact⟨v,y,hk,hy _ _ _ hx,hr⟩
theorem Zpa{P:Program}{tab:Qk}(htab:Qx P tab){M:Qc}{ρ:Env}{H:List Qa}{w0:World}{Sw:World→Prop}{K:Qn}(hm:Mem M ρ H w0){t f:Nat}{x:SV}{v:Value}(hx:Qd M ρ v x)
  (h:(Qeu tab t x f).holds H K):Q8 P (Instr.fieldAt t v f) M ρ Sw H K:=Q8.seen (Zu9 (w0:=w0) htab hm hx.Z7 (Qsv h))
theorem Zr8{P:Program}{tab:Qk}(htab:Qx P tab){M:Qc}{ρ:Env}{H:List Qa}{w0:World}{Sw:World→Prop}{K:Qn}(hm:Mem M ρ H w0){t:Nat}{x ix:SV}{v u:Value}(hx:Qd M ρ v x)(hix:Qd M ρ u ix)
  (h:(Qg3 tab t x ix).holds H K):Q8 P (Instr.indexAt t v u) M ρ Sw H K:=Q8.seen (Zln (w0:=w0) htab hm hx.Z7 hix (Qyi h))
theorem Zuh{P:Program}{tab:Qk}(htab:Qx P tab){M:Qc}{ρ:Env}{H:List Qa}{w0:World}{Sw:World→Prop}{K:Qn}(hm:Mem M ρ H w0){t:Nat}{x:SV}{lo hi:Option SV}{v:Value}{vl vh:Option Value}
  (hx:Qd M ρ v x) (hsl:vl.isSome=lo.isSome) (hrl:∀v x,vl=some v→lo=some x→Qd M ρ v x) (hsh:vh.isSome=hi.isSome) (hrh:∀v x,vh=some v→hi=some x→Qd M ρ v x)
  (h:(Qfz tab H t x lo hi).holds H K):Q8 P (Instr.sliceAt t v vl vh none) M ρ Sw H K:=Q8.seen (Zng (w0:=w0) htab hm hx.Z7 hsl hrl hsh hrh (Qtw h))
theorem Zxv{x:SV}(h:∀s,x≠.mp s):∀s,x.Z7≠.mp s:=by
 intro s;unfold SV.Z7;split
 ·intro e;cases e
 ·intro e;cases e
 ·exact h s
theorem Zgg{P:Program}{tab:Qk}(htab:Qx P tab){M:Qc}{ρ:Env}{H:List Qa}{w0:World}{Sw:World→Prop}{K:Qn}(hm:Mem M ρ H w0){t ty:Nat}{x:SV}{v:Value}(hx:Qd M ρ v x)(hnm:∀s,x≠.mp s)
  (h:(Qg8 tab H t x).holds H K):Q8 P (Builtin.len_ #[t] ty #[v]) M ρ Sw H K:=Q8.seen (Zlo (w0:=w0) htab hm hx.Z7 (Zxv hnm) (Qxt h))
end Go.Sx
