/- Part Ke of the own logic: equality of rows of cells; which data may be keys. Part I of the own logic: maps and ranges over strings. -/
import Derived.Test.YtpkbmngnolhopaaGreatDoorXSxH
import Derived.Orders
import Derived.IntWalk
import Derived.Maps.RangeRun
set_option linter.unusedVariables false
set_option linter.unusedSimpArgs false
open Bool renaming and_eq_true->C,false_eq_true->ZM,true_and->XA,true_eq_false->XC,and_true->XK
open List renaming getElem?_eq_getElem->I,getElem?_eq_some_iff->ZO,find?_eq_some_iff_getElem->ZQ,forIn_cons->ZU,getElem?_eq_none->ZY,getElem?_map->ZZ,all_cons->Q2,getElem?_cons_zero->QB,getElem?_append->QG,getElem?_of_mem->QH,ext_getElem?->QM,getElem?_set->QN,map_cons->QQ,range'_succ->QR,length_cons->QT,getElem?_cons_succ->QU,mem_of_getElem?->QY,length_nil->XI
open Go.Result renaming andThen_ok->J
open Go.Instr renaming findNow->R,sameBits->ZB,findKey->ZC,findAsking->ZF,sameNow->ZI,keyThatStays->ZJ,checkKey->ZK,lookup->ZN,mapUpdate->ZW,mapEntry->Q1,entryStore->QF,range->QO,makeMap->XB,next->XE,entry->XH
open Nat renaming eq_of_beq_eq_true->ZA,add_zero->ZS,add_assoc->ZX,add_comm->QD,beq->QJ,mul_one->QW,beq_refl->XF
open Array renaming getElem?_eq_some_iff->ZD,getElem?_toList->ZH,getElem?_eq_getElem->ZL,findIdx?_eq_some_iff_getElem->QA,getElem?_modify->QV,getElem?_push->QZ,forIn_toList->XD,isEmpty->XL
open Go.Sem renaming run_bind->ZE,run_pure->QC,run->QL,run_map->QX,bind->XM
open Option.some renaming injEq->ZG,inj->QI
open Option renaming bind_some->ZP,map_eq_some_iff->ZR,map_some->ZV,getD_some->XG
open ForInStep renaming yield->ZT,done->XJ
open PUnit renaming unit->QE
open Go.Op renaming equalIn->QK
open Go.Utf8 renaming decode->QP
open Go renaming sizeOf->QS
namespace Go.Sx
open Go
theorem Qgb{P:Program}{t:TypeId}{i:TI}(h:Jd P t i)(w:World):(isAgg t).run P w=.ok i.desc.isRow w:=by unfold isAgg;rw[ZE,run_underlying h.und w];generalize i.desc=d;cases d<;>simp[TypeDesc.isRow]
def SV.cells?:SV->Option (List SV)
 |.agg l=>some l
 |.pv (.lit (.agg a))=>some (a.toList.map .lit)
 |_=>none
theorem Qin{M:Qd}{U:Env}{v:Value}{x:SV}{l:List SV}(h:x.cells? =some l)(hr:Qf M U v x):
  ∃cs,v=.agg cs∧cs.size=l.length∧∀(i:Nat) (v:Value) (x:SV),cs[i]? =some v->l[i]? =some x->Qf M U v x:=by
 unfold SV.cells? at h;split at h
 ·cases h;cases hr with
  |agg cs _ hl hr=>exact⟨cs,rfl,hl,hr⟩
 ·rename_i a;cases h;have:=hr.Zt;subst this;refine⟨a,rfl,by simp,fun i v x hv hx=>?_⟩;simp only[ZZ,ZR]at hx;obtain⟨z,hz,rfl⟩:=hx;rw[ZH,hv]at hz;cases hz;exact .pv (.lit _)
 ·cases h
def partOf(tab:Qp)(t:Nat)(l:List SV)(off:Nat):Option SV:=match tab.lookup t with
 |none=>none
 |some i=>match i.desc.isRow with
  |true=>match Nat.ble (off+i.size) l.length with
   |true=>some (.X7 ((l.drop off).take i.size))
   |false=>none
  |false=>l[off]?
theorem Qsc{P:Program}{tab:Qp}(htab:Q6 P tab){M:Qd}{U:Env}(w:World){t off:Nat}{cs:Array Value}{l:List SV}{x:SV}(hl:cs.size=l.length)
  (hr:∀(i:Nat) (v:Value) (x:SV),cs[i]? =some v->l[i]? =some x->Qf M U v x) (h:partOf tab t l off=some x):∃v,(part t cs off).run P w=.ok v w∧Qf M U v x:=by
 unfold partOf at h;split at h
 ·cases h
 ·rename_i i hi;have ht:=htab.get hi;obtain⟨inf,hinf,i1,_⟩:=ht.inf;split at h
  ·rename_i hd;split at h
   ·rename_i hle;have hle:=Nat.le_of_ble_eq_true hle;cases h;refine⟨.agg (cs.extract off (off+i.size)),by simp[part,Qgb ht,hd,sizeOf,typeInfo,hinf,i1],?_⟩;have:=Qf.X7 (M:=M) (U:=U) (cs:=(cs.extract off (off+i.size)).toList) (l:=(l.drop off).take i.size) (by simp;omega) (fun k v x hv hx=>by
     rw[List.getElem?_take]at hx;split at hx
     ·rename_i hk;rw[List.getElem?_drop]at hx;rw[ZH,Array.getElem?_extract]at hv;split at hv
      ·exact hr _ v x hv hx
      ·cases hv
     ·cases hx)
    rwa[Array.toArray_toList]at this
   ·cases h
  ·rename_i hd;have hlt:off<cs.size:=by have:=(ZO.1 h).1;omega
   exact⟨cs[off],by simp[part,Qgb ht,hd,hlt],hr off _ _ (by simp[hlt]) h⟩
def Qds(d:TypeDesc)(x y:SV):Option Bool:=match d,x,y with
 |.bool,.pv (.lit (.bool a)),.pv (.lit (.bool b))=>some (a==b)
 |.int _,.pv (.lit (.int k a)),.pv (.lit (.int k' b))=>match decide (k=k')with
  |true=>some (decide (a=b))
  |false=>none
 |.string,.pv (.lit (.string a)),.pv (.lit (.string b))=>some (a==b)
 |_,_,_=>none
def Qbd(eq:Nat->SV->SV->Option Bool)(tab:Qp)(xs ys:List SV):List Field->Option Bool
 |[]=>some true
 |f::fs=>match decide (f.name= "_")with
  |true=>Qbd eq tab xs ys fs
  |false=>match partOf tab f.type xs f.offset with
   |none=>none
   |some a=>match partOf tab f.type ys f.offset with
    |none=>none
    |some b=>match eq f.type a b with
     |none=>none
     |some r=>match Qbd eq tab xs ys fs with
      |none=>none
      |some r'=>some (r&&r')
def Qca(eq:Nat->SV->SV->Option Bool)(tab:Qp)(xs ys:List SV)(e sz:Nat):Nat->Nat->Option Bool
 |_,0=>some true
 |i,k+1=>match partOf tab e xs (i*sz)with
  |none=>none
  |some a=>match partOf tab e ys (i*sz)with
   |none=>none
   |some b=>match eq e a b with
    |none=>none
    |some r=>match Qca eq tab xs ys e sz (i+1) k with
     |none=>none
     |some r'=>some (r&&r')
def eqV(P:Program)(tab:Qp):Nat->Nat->SV->SV->Option Bool
 |0,_,_,_=>none
 |n+1,t,x,y=>match tab.lookup t with
  |none=>none
  |some i=>match i.desc with
   |.struct fields=>match P.stoodInHeld t with
    |true=>none
    |false=>match x.cells? with
     |none=>none
     |some xs=>match y.cells? with
      |none=>none
      |some ys=>Qbd (eqV P tab n) tab xs ys fields.toList
   |.array len e=>match tab.lookup e with
    |none=>none
    |some ie=>match x.cells? with
     |none=>none
     |some xs=>match y.cells? with
      |none=>none
      |some ys=>Qca (eqV P tab n) tab xs ys e ie.size 0 len
   |d=>Qds d x y
theorem Qtr{P:Program}{tab:Qp}(htab:Q6 P tab){M:Qd}{U:Env}(w:World){eq:Nat->SV->SV->Option Bool}{E:Nat->Value->Value->Sem Bool}
  (hE:∀t x y vx vy b,eq t x y=some b->Qf M U vx x->Qf M U vy y->(E t vx vy).run P w=.ok b w)
  {cx cy:Array Value} {xs ys:List SV} (lx:cx.size=xs.length) (ly:cy.size=ys.length)
  (rx:∀(i:Nat) (v:Value) (x:SV),cx[i]? =some v->xs[i]? =some x->Qf M U v x) (ry:∀(i:Nat) (v:Value) (x:SV),cy[i]? =some v->ys[i]? =some x->Qf M U v x):
  ∀(fl:List Field) (b:Bool),Qbd eq tab xs ys fl=some b->
  QL P (forIn fl ((none,()):Option Bool×Unit) fun f __s=>
      if f.name= "_" then pure (ZT (none,()))
      else do
       let a <-part f.type cx f.offset;let c <-part f.type cy f.offset;let r <-E f.type a c
       if r=false then pure (XJ (some false,()))else pure (ZT (none,()))) w=.ok (if b then(none,())else(some false,())) w
 |[],b,h=>by simp[Qbd]at h;subst h;simp
 |f::fs,b,h=>by
  rw[ZU];simp only[Qbd]at h;split at h
  ·rename_i hn;have hn:=of_decide_eq_true hn;simp only[hn,if_true,ZE,QC,J];exact Qtr htab w hE lx ly rx ry fs b h
  ·rename_i hn;have hn:=of_decide_eq_false hn;split at h
   ·cases h
   ·rename_i a ha;split at h
    ·cases h
    ·rename_i c hc;split at h
     ·cases h
     ·rename_i r hr;split at h
      ·cases h
      ·rename_i r' hr';cases h;obtain⟨va,p1,p2⟩:=Qsc htab w lx rx ha;obtain⟨vc,p3,p4⟩:=Qsc htab w ly ry hc;have p5:=hE _ _ _ _ _ _ hr p2 p4;have ih:=Qtr htab w hE lx ly rx ry fs r' hr';simp only[hn,if_false,ZE,p1,p3,p5,J];cases r with
       |false=>simp
       |true=>simp only[XC,if_false,QC,J,XA];exact ih
theorem Zll{P:Program}{tab:Qp}(htab:Q6 P tab){M:Qd}{U:Env}(w:World){eq:Nat->SV->SV->Option Bool}{E:Nat->Value->Value->Sem Bool}
  (hE:∀t x y vx vy b,eq t x y=some b->Qf M U vx x->Qf M U vy y->(E t vx vy).run P w=.ok b w)
  {cx cy:Array Value} {xs ys:List SV} (lx:cx.size=xs.length) (ly:cy.size=ys.length)
  (rx:∀(i:Nat) (v:Value) (x:SV),cx[i]? =some v->xs[i]? =some x->Qf M U v x) (ry:∀(i:Nat) (v:Value) (x:SV),cy[i]? =some v->ys[i]? =some x->Qf M U v x) {e sz:Nat}:
  ∀(k i:Nat) (b:Bool),Qca eq tab xs ys e sz i k=some b->
  QL P (forIn (List.range' i k) ((none,()):Option Bool×Unit) fun i __s=>do
       let a <-part e cx (i*sz);let c <-part e cy (i*sz);let r <-E e a c
       if r=false then pure (XJ (some false,()))else pure (ZT (none,()))) w=.ok (if b then(none,())else(some false,())) w
 |0,i,b,h=>by simp[Qca]at h;subst h;simp
 |k+1,i,b,h=>by
  rw[QR,ZU];simp only[Qca]at h;split at h
  ·cases h
  ·rename_i a ha;split at h
   ·cases h
   ·rename_i c hc;split at h
    ·cases h
    ·rename_i r hr;split at h
     ·cases h
     ·rename_i r' hr';cases h;obtain⟨va,p1,p2⟩:=Qsc htab w lx rx ha;obtain⟨vc,p3,p4⟩:=Qsc htab w ly ry hc;have p5:=hE _ _ _ _ _ _ hr p2 p4;have ih:=Zll htab w hE lx ly rx ry k (i+1) r' hr';simp only[ZE,p1,p3,p5,J];cases r with
      |false=>simp
      |true=>simp only[XC,if_false,QC,J,XA];exact ih
theorem Qod{P:Program}{tab:Qp}(htab:Q6 P tab){M:Qd}{U:Env}(w:World):∀(n:Nat) (t:Nat) (x y:SV) (vx vy:Value) (b:Bool),eqV P tab n t x y=some b->Qf M U vx x->Qf M U vy y->
  ∀d,n<=d->(QK d t vx vy).run P w=.ok b w
 |0,t,x,y,vx,vy,b,h,hx,hy=>by simp[eqV]at h
 |n+1,t,x,y,vx,vy,b,h,hx,hy=>by
  intro d hd;obtain⟨d,rfl⟩:∃e,d=e+1:=⟨d-1,by omega⟩;unfold eqV at h;split at h
  ·cases h
  ·rename_i i hi;have ht:=htab.get hi;split at h
   ·rename_i fields hdesc;split at h
    ·cases h
    ·rename_i hst;split at h
     ·cases h
     ·rename_i xs hxs;split at h
      ·cases h
      ·rename_i ys hys;obtain⟨cx,rfl,lx,rx⟩:=Qin hxs hx;obtain⟨cy,rfl,ly,ry⟩:=Qin hys hy;have hu:P.underlying t=some (.struct fields):=by rw[ht.und,hdesc]
       unfold QK;simp only[ZE,run_underlying hu,J];simp[hst];rw[<-XD];generalize fields.toList=fl at h;rw[Qtr htab w (fun t x y vx vy b h hx hy=>Qod htab w n t x y vx vy b h hx hy d (by omega)) lx ly rx ry fl b h];cases b<;>simp
   ·rename_i len e hdesc;split at h
    ·cases h
    ·rename_i ie hie;split at h
     ·cases h
     ·rename_i xs hxs;split at h
      ·cases h
      ·rename_i ys hys;obtain⟨cx,rfl,lx,rx⟩:=Qin hxs hx;obtain⟨cy,rfl,ly,ry⟩:=Qin hys hy;have hu:P.underlying t=some (.array len e):=by rw[ht.und,hdesc]
       obtain⟨inf,hinf,i1,_⟩:=(htab.get hie).inf;have hsz:(QS e).run P w=.ok ie.size w:=by simp[QS,typeInfo,hinf,i1]
       unfold QK;simp only[ZE,run_underlying hu,J,hsz];simp;rw[Zll htab w (fun t x y vx vy b h hx hy=>Qod htab w n t x y vx vy b h hx hy d (by omega)) lx ly rx ry len 0 b h];cases b<;>simp
   ·rename_i hns;unfold Qds at h;split at h
    ·rename_i hdesc;cases h;have ex:=hx.Zt;have ey:=hy.Zt;subst ex;subst ey;have hu:=ht.und;rw[hdesc]at hu;unfold QK;simp[ZE,run_underlying hu]
    ·rename_i hdesc;split at h
     ·rename_i hk;cases of_decide_eq_true hk;cases h;have ex:=hx.Zt;have ey:=hy.Zt;subst ex;subst ey;have hu:=ht.und;rw[hdesc]at hu;unfold QK;simp[ZE,run_underlying hu];rfl
     ·cases h
    ·rename_i hdesc;cases h;have ex:=hx.Zt;have ey:=hy.Zt;subst ex;subst ey;have hu:=ht.und;rw[hdesc]at hu;unfold QK;simp[ZE,run_underlying hu]
    ·cases h
def Jc:TypeDesc->Qe->Bool
 |.int k,.val (.int k')=>decide (k=k')
 |.string,.val .str=>true
 |.bool,.val .bool=>true
 |_,_=>false
theorem Zdc{d:TypeDesc}{a:Qe}(h:Jc d a=true):a.scalar=true:=by unfold Jc at h;split at h<;>first|rfl|cases h
def Wj(tab:Qp):List Field->List Ty->Nat->Bool
 |[],[],_=>true
 |f::fs,t::ts,i=>match decide (f.name= "_")with
  |true=>false
  |false=>match QJ f.offset i with
   |false=>false
   |true=>match tab.lookup f.type with
    |none=>false
    |some d=>Jc d.desc (.val t)&&Wj tab fs ts (i+1)
 |_,_,_=>false
def K0(d:TypeDesc):List Ty->Bool
 |[]=>true
 |t::ts=>Jc d (.val t)&&K0 d ts
def Qae(P:Program)(tab:Qp)(kt:Nat)(d:TypeDesc):Qe->Bool
 |.agg row=>match d with
  |.struct fs=>match P.stoodInHeld kt with
   |true=>false
   |false=>Wj tab fs.toList row 0
  |.array len e=>match tab.lookup e with
   |none=>false
   |some ie=>QJ row.length len&&(QJ ie.size 1&&K0 ie.desc row)
  |_=>false
 |_=>false
def Qcr(P:Program)(tab:Qp)(kt:Nat)(d:TypeDesc)(a:Qe):Bool:=match Jc d a with
 |true=>true
 |false=>Qae P tab kt d a
theorem Qge{d:TypeDesc}{t:Ty}(h:Jc d (.val t)=true):d.isRow=false∧t.scalar=true:=by refine⟨?_,Zdc (a:=.val t) h⟩;unfold Jc at h;split at h<;>first|rfl|cases h
theorem Zn3{d:TypeDesc}:∀{t:Ty} (h:Jc d (.val t)=true) (x y:t.El),Qds d (.pv (t.pv x)) (.pv (t.pv y))=some (t.eqv x y)
 |.int b,h,x,y=>by
  cases d<;>first|(simp only[Jc,ZM]at h;done)|skip
  rename_i a;have e:a=b:=by simpa[Jc]using h
  subst e;have key:∀x y:Int,Qds (.int a) (.pv (.lit (.int a x))) (.pv (.lit (.int a y)))=some (U2 x y):=fun x y=>by simp[Qds,U2]
  exact key x y
 |.str,h,x,y=>by
  cases d<;>first|(simp only[Jc,ZM]at h;done)|skip
  have key:∀x y:ByteArray,Qds .string (.pv (.lit (.string x))) (.pv (.lit (.string y)))=some (Qc x y):=fun x y=>by simp only[Qds,Qj0]
  exact key x y
 |.bool,h,x,y=>by
  cases d<;>first|(simp only[Jc,ZM]at h;done)|skip
  have key:∀x y:Bool,Qds .bool (.pv (.lit (.bool x))) (.pv (.lit (.bool y)))=some (Qfm x y):=by decide
  exact key x y
 |.seq _,h,x,y=>by cases d<;>simp only[Jc,ZM]at h
theorem Qp4{P:Program}{tab:Qp}{n ft:Nat}{i:TI}(hi:tab.lookup ft=some i){t:Ty}(h:Jc i.desc (.val t)=true)(x y:t.El):eqV P tab (n+1) ft (.pv (t.pv x)) (.pv (t.pv y))=some (t.eqv x y):=by
 have e:=Zn3 h x y;unfold eqV;rw[hi];simp only;split
 ·rename_i hd;rw[hd]at h;exact absurd h (by cases t<;>simp[Jc])
 ·rename_i hd;rw[hd]at h;exact absurd h (by cases t<;>simp[Jc])
 ·exact e
theorem Qdm{tab:Qp}{ft off:Nat}{i:TI}(hi:tab.lookup ft=some i){t:Ty}(h:Jc i.desc (.val t)=true){xs:List SV}{q:SV}(hq:xs[off]? =some q):partOf tab ft xs off=some q:=by unfold partOf;rw[hi];simp only[(Qge h).1,hq]
theorem Zao{P:Program}{tab:Qp}{n:Nat}{xs ys:List SV}:∀(fs:List Field) (ts:List Ty) (i:Nat) (x y:Qj ts),Wj tab fs ts i=true->
  (∀j q,(Zs ts x)[j]? =some q->xs[i+j]? =some (.pv q))->(∀j q,(Zs ts y)[j]? =some q->ys[i+j]? =some (.pv q))->
  Qbd (eqV P tab (n+1)) tab xs ys fs=some (Qj.eqv ts x y)
 |[],[],i,x,y,h,hx,hy=>rfl
 |[],_::_,i,x,y,h,hx,hy=>by simp[Wj]at h
 |_::_,[],i,x,y,h,hx,hy=>by simp[Wj]at h
 |f::fs,[t],i,x,y,h,hx,hy=>by
  simp only[Wj]at h;split at h
  ·cases h
  ·rename_i hn;split at h
   ·cases h
   ·rename_i ho;have ho:=ZA ho;split at h
    ·cases h
    ·rename_i d hd;rw[C]at h;have h1:=Qdm hd h.1 (hx 0 (t.pv x) rfl);have h2:=Qdm hd h.1 (hy 0 (t.pv y) rfl);have h3:=Qp4 (P:=P) (n:=n) hd h.1 x y;have h4:Qbd (eqV P tab (n+1)) tab xs ys fs=some true:=by
      cases fs with
      |nil=>rfl
      |cons _ _=>simp[Wj]at h
     simp only[Qbd,hn,ho,ZS]at h1 h2⊢;simp only[h1,h2,h3,h4,XK];rfl
 |f::fs,t::t'::ts,i,x,y,h,hx,hy=>by
  simp only[Wj]at h;split at h
  ·cases h
  ·rename_i hn;split at h
   ·cases h
   ·rename_i ho;have ho:=ZA ho;split at h
    ·cases h
    ·rename_i d hd;rw[C]at h;have h1:=Qdm hd h.1 (hx 0 (t.pv x.1) rfl);have h2:=Qdm hd h.1 (hy 0 (t.pv y.1) rfl);have h3:=Qp4 (P:=P) (n:=n) hd h.1 x.1 y.1;have h4:=Zao (P:=P) (n:=n) fs (t'::ts) (i+1) x.2 y.2 h.2 (fun j q hq=>by rw[ZX,QD 1 j];exact hx (j+1) q hq) (fun j q hq=>by rw[ZX,QD 1 j];exact hy (j+1) q hq);simp only[Qbd,hn,ho,ZS]at h1 h2⊢;simp only[h1,h2,h3,h4];show some (t.eqv x.1 y.1&&Qj.eqv (t'::ts) x.2 y.2)=some (W9 t.eqv (Qj.eqv (t'::ts)) x y);unfold W9;cases t.eqv x.1 y.1<;>rfl
theorem Zlu{P:Program}{tab:Qp}{n e:Nat}{ie:TI}(he:tab.lookup e=some ie){xs ys:List SV}:∀(ts:List Ty) (i:Nat) (x y:Qj ts),K0 ie.desc ts=true->
  (∀j q,(Zs ts x)[j]? =some q->xs[i+j]? =some (.pv q))->(∀j q,(Zs ts y)[j]? =some q->ys[i+j]? =some (.pv q))->
  Qca (eqV P tab (n+1)) tab xs ys e 1 i ts.length=some (Qj.eqv ts x y)
 |[],i,x,y,h,hx,hy=>rfl
 |[t],i,x,y,h,hx,hy=>by simp only[K0,C]at h;have h1:=Qdm he h.1 (hx 0 (t.pv x) rfl);have h2:=Qdm he h.1 (hy 0 (t.pv y) rfl);have h3:=Qp4 (P:=P) (n:=n) he h.1 x y;simp only[ZS]at h1 h2;simp only[QT,XI,Qca,QW,h1,h2,h3,XK];rfl
 |t::t'::ts,i,x,y,h,hx,hy=>by simp only[K0,C]at h;have h1:=Qdm he h.1 (hx 0 (t.pv x.1) rfl);have h2:=Qdm he h.1 (hy 0 (t.pv y.1) rfl);have h3:=Qp4 (P:=P) (n:=n) he h.1 x.1 y.1;have h4:=Zlu (P:=P) (n:=n) he (t'::ts) (i+1) x.2 y.2 (by simp only[K0,C];exact h.2) (fun j q hq=>by rw[ZX,QD 1 j];exact hx (j+1) q hq) (fun j q hq=>by rw[ZX,QD 1 j];exact hy (j+1) q hq);simp only[ZS]at h1 h2;show Qca (eqV P tab (n+1)) tab xs ys e 1 i ((t'::ts).length+1)=_;simp only[Qca,QW,h1,h2,h3,h4];show some (t.eqv x.1 y.1&&Qj.eqv (t'::ts) x.2 y.2)=some (W9 t.eqv (Qj.eqv (t'::ts)) x y);unfold W9;cases t.eqv x.1 y.1<;>rfl
theorem Qvn{P:Program}{tab:Qp}{kt:Nat}{d:TypeDesc}{a:Qe}(h:Qae P tab kt d a=true):a.scalar=true:=by
 have key1:∀(fs:List Field) (ts:List Ty) (i:Nat),Wj tab fs ts i=true->ts.all Ty.scalar=true:=by
  intro fs;induction fs with
  |nil=>intro ts i h;cases ts<;>first|rfl|(simp[Wj]at h)
  |cons f fs ih=>
   intro ts i h;cases ts with
   |nil=>rfl
   |cons t ts=>
    simp only[Wj]at h;split at h
    ·cases h
    ·split at h
     ·cases h
     ·split at h
      ·cases h
      ·rw[C]at h;rw[Q2,C];exact⟨(Qge h.1).2,ih _ _ h.2⟩
 have key2:∀(d:TypeDesc) (ts:List Ty),K0 d ts=true->ts.all Ty.scalar=true:=by
  intro d ts;induction ts with
  |nil=>intro _;rfl
  |cons t ts ih=>intro h;simp only[K0,C]at h;rw[Q2,C];exact⟨(Qge h.1).2,ih h.2⟩
 unfold Qae at h;split at h
 ·split at h
  ·split at h
   ·cases h
   ·exact key1 _ _ _ h
  ·split at h
   ·cases h
   ·simp only[C]at h;exact key2 _ _ h.2.2
  ·cases h
 ·cases h
theorem Qj9{P:Program}{tab:Qp}{kt:Nat}{d:TypeDesc}{a:Qe}(h:Qcr P tab kt d a=true):a.scalar=true:=by
 unfold Qcr at h;split at h
 ·rename_i e;exact Zdc e
 ·exact Qvn h
theorem Yoi{P:Program}{tab:Qp}{kt:Nat}{d:TypeDesc}{a:Qe}{i:TI}(hi:tab.lookup kt=some i)(h:Qae P tab kt i.desc a=true)(x y:a.El):eqV P tab 2 kt (a.raw x) (a.raw y)=some (a.eqv x y):=by
 unfold Qae at h;split at h
 ·rename_i row;split at h
  ·rename_i fs hd;split at h
   ·cases h
   ·rename_i hs;simp only[eqV,hi,hd,hs,Qe.raw,SV.cells?];exact Zao (P:=P) (n:=0) fs.toList row 0 x y h (fun j q hq=>by simp[hq]) (fun j q hq=>by simp[hq])
  ·rename_i len e hd;split at h
   ·cases h
   ·rename_i ie hie;simp only[C]at h;have e1:=ZA h.1;have e2:=ZA h.2.1;simp only[eqV,hi,hd,hie,Qe.raw,SV.cells?,e2,<-e1];exact Zlu (P:=P) (n:=0) hie row 0 x y h.2.2 (fun j q hq=>by simp[hq]) (fun j q hq=>by simp[hq])
  ·cases h
 ·cases h
theorem Qr9{P:Program}{tab:Qp}(htab:Q6 P tab){ft off:Nat}{i:TI}(hi:tab.lookup ft=some i)(hd:i.desc.isRow=false){cs:Array Value}{v:Value}(hv:cs[off]? =some v)(w:World):(part ft cs off).run P w=.ok v w:=by have ht:=htab.get hi;obtain⟨h1,h2⟩:=ZD.1 hv;simp[part,Qgb ht,hd,h1,h2]
theorem Qli{P:Program}{tab:Qp}(htab:Q6 P tab){ft:Nat}{i:TI}(hi:tab.lookup ft=some i){t:Ty}(h:Jc i.desc (.val t)=true)(x:t.El)(e:Bool)(n:Nat)(w:World):
  (ZK e (n+1) ft (t.toV x)).run P w=.ok () w:=by
 unfold ZK;simp only[ZE,run_underlying (htab.get hi).und,J];generalize i.desc=d at h;cases t<;>cases d<;>first|(simp only[Jc,ZM]at h;done)|rfl
theorem Zfr{P:Program}{tab:Qp}(htab:Q6 P tab){cs:Array Value}{e:Bool}{n:Nat}(w:World):∀(fs:List Field) (ts:List Ty) (i:Nat) (x:Qj ts),Wj tab fs ts i=true->(∀j v,(Vd ts x)[j]? =some v->cs[i+j]? =some v)->
  QL P (forIn fs QE fun f __s=>if f.name= "_" then pure (ZT QE)else do
     let v <-part f.type cs f.offset
     (fun a=>ZT QE)<$>ZK e (n+1) f.type v) w=.ok QE w
 |[],[],i,x,h,hx=>by simp
 |[],_::_,i,x,h,hx=>by simp[Wj]at h
 |_::_,[],i,x,h,hx=>by simp[Wj]at h
 |f::fs,[t],i,x,h,hx=>by
  simp only[Wj]at h;split at h
  ·cases h
  ·rename_i hn;have hn:=of_decide_eq_false hn;split at h
   ·cases h
   ·rename_i ho;have ho:=ZA ho;split at h
    ·cases h
    ·rename_i d hd;rw[C]at h;have h1:=Qr9 htab hd (Qge h.1).1 (hx 0 (t.toV x) rfl) w;rw[ZS,<-ho]at h1;have h4:fs=[]:=by
      cases fs with
      |nil=>rfl
      |cons _ _=>simp[Wj]at h
     subst h4;rw[ZU];simp only[hn,if_false,ZE,h1,J,QX,Qli htab hd h.1 x e n w];simp
 |f::fs,t::t'::ts,i,x,h,hx=>by
  simp only[Wj]at h;split at h
  ·cases h
  ·rename_i hn;have hn:=of_decide_eq_false hn;split at h
   ·cases h
   ·rename_i ho;have ho:=ZA ho;split at h
    ·cases h
    ·rename_i d hd;rw[C]at h;have h1:=Qr9 htab hd (Qge h.1).1 (hx 0 (t.toV x.1) rfl) w;rw[ZS,<-ho]at h1;have h4:=Zfr htab (cs:=cs) (e:=e) (n:=n) w fs (t'::ts) (i+1) x.2 h.2 (fun j q hq=>by rw[ZX,QD 1 j];exact hx (j+1) q hq);rw[ZU];simp only[hn,if_false,ZE,h1,J,QX,Qli htab hd h.1 x.1 e n w];simpa using h4
theorem Zby{P:Program}{tab:Qp}(htab:Q6 P tab){cs:Array Value}{e:Bool}{n el:Nat}{ie:TI}(he:tab.lookup el=some ie)(hz:ie.size=1)(w:World):∀(ts:List Ty) (i:Nat) (x:Qj ts),K0 ie.desc ts=true->(∀j v,(Vd ts x)[j]? =some v->cs[i+j]? =some v)->
  QL P (forIn (List.range' i ts.length) QE fun i __s=>do
    let z <-sizeOf el;let v <-part el cs (i*z)
    (fun a=>ZT QE)<$>ZK e (n+1) el v) w=.ok QE w
 |[],i,x,h,hx=>by simp
 |[t],i,x,h,hx=>by
  simp only[K0,C]at h;obtain⟨inf,hinf,i1,_⟩:=(htab.get he).inf;have hsz:(QS el).run P w=.ok 1 w:=by simp[QS,typeInfo,hinf,i1,hz]
  have h1:=Qr9 htab he (Qge h.1).1 (hx 0 (t.toV x) rfl) w;rw[ZS]at h1;simp only[QT,XI,QR,List.range'_zero,ZU,ZE,hsz,QW,h1,J,QX,Qli htab he h.1 x e n w];simp
 |t::t'::ts,i,x,h,hx=>by
  simp only[K0,C]at h;obtain⟨inf,hinf,i1,_⟩:=(htab.get he).inf;have hsz:(QS el).run P w=.ok 1 w:=by simp[QS,typeInfo,hinf,i1,hz]
  have h1:=Qr9 htab he (Qge h.1).1 (hx 0 (t.toV x.1) rfl) w;rw[ZS]at h1;have h4:=Zby htab (cs:=cs) (e:=e) (n:=n) he hz w (t'::ts) (i+1) x.2 (by simp only[K0,C];exact h.2) (fun j q hq=>by rw[ZX,QD 1 j];exact hx (j+1) q hq);rw[QT,QR,ZU];simp only[ZE,hsz,QW,h1,J,QX,Qli htab he h.1 x.1 e n w];simpa using h4
theorem Zqk{P:Program}{tab:Qp}(htab:Q6 P tab){kt:Nat}{i:TI}(hi:tab.lookup kt=some i){a:Qe}(h:Qae P tab kt i.desc a=true)(x:a.El)(e:Bool)(w:World):(ZK e 10000 kt (a.Z5 x)).run P w=.ok () w:=by
 unfold Qae at h;split at h
 ·rename_i row;split at h
  ·rename_i fs hd;split at h
   ·cases h
   ·have hu:=(htab.get hi).und;rw[hd]at hu;unfold ZK;simp only[ZE,run_underlying hu,J];dsimp only[Qe.Z5];simp;rw[<-XD];exact Zfr htab w fs.toList row 0 x h (fun j v hv=>by simpa using hv)
  ·rename_i len el hd;split at h
   ·cases h
   ·rename_i ie hie;simp only[C]at h;have e1:=ZA h.1;have e2:=ZA h.2.1;have hu:=(htab.get hi).und;rw[hd]at hu;unfold ZK;simp only[ZE,run_underlying hu,J];dsimp only[Qe.Z5];simp;rw[<-e1];exact Zby htab hie e2 w row 0 x h.2.2 (fun j v hv=>by simpa using hv)
  ·cases h
 ·cases h
theorem Qjb{P:Program}{tab:Qp}(htab:Q6 P tab){kt:Nat}{i:TI}(hi:tab.lookup kt=some i){a:Qe}(h:Qcr P tab kt i.desc a=true)(x:a.El)(e:Bool)(w:World):(ZK e 10000 kt (a.Z5 x)).run P w=.ok () w:=by
 unfold Qcr at h;split at h
 ·rename_i hd;cases a with
  |val t=>exact Qli htab hi hd x e 9999 w
  |agg row=>exact absurd hd (by generalize i.desc=d;cases d<;>simp[Jc])
 ·exact Zqk htab hi h x e w
theorem Yiz:∀(ts:List Ty) (x:Qj ts),ts.all Ty.scalar=true->((Vd ts x).zip (Vd ts x)).all (fun p=>ZB 9999 p.1 p.2)=true:=by
 have cell:∀(t:Ty) (x:t.El),t.scalar=true->ZB 9999 (t.toV x) (t.toV x)=true:=by
  intro t x h;cases t with
  |int k=>
   have key:∀a:Int,ZB 9999 (.int k a) (.int k a)=true:=fun a=>by simp[ZB]
   exact key x
  |str=>
   have key:∀a:ByteArray,ZB 9999 (.string a) (.string a)=true:=fun a=>by simp only[ZB,Qj0,Qc,decide_true]
   exact key x
  |bool=>
   have key:∀a:Bool,ZB 9999 (.bool a) (.bool a)=true:=fun a=>by simp[ZB]
   exact key x
  |seq r=>cases h
 intro ts;induction ts with
 |nil=>intro x h;rfl
 |cons t ts ih=>
  intro x h;rw[Q2,C]at h;cases ts with
  |nil=>show(((t.toV x,t.toV x)::[]).all _)=true;simp[cell t x h.1]
  |cons t' ts=>have:=ih x.2 h.2;show(((t.toV x.1,t.toV x.1)::((Vd (t'::ts) x.2).zip (Vd (t'::ts) x.2))).all _)=true;rw[Q2,cell t x.1 h.1,this];rfl
theorem Zid{a:Qe}(hs:a.scalar=true)(x:a.El):ZB 10000 (a.Z5 x) (a.Z5 x)=true:=by
 cases a with
 |val t=>
  cases t with
  |int k=>
   have key:∀a:Int,ZB 10000 (.int k a) (.int k a)=true:=fun a=>by simp[ZB]
   exact key x
  |str=>
   have key:∀a:ByteArray,ZB 10000 (.string a) (.string a)=true:=fun a=>by simp only[ZB,Qj0,Qc,decide_true]
   exact key x
  |bool=>
   have key:∀a:Bool,ZB 10000 (.bool a) (.bool a)=true:=fun a=>by simp[ZB]
   exact key x
  |seq r=>cases hs
 |agg row=>have h:=Yiz row x hs;show ZB (9999+1) (.agg (Vd row x).toArray) (.agg (Vd row x).toArray)=true;simp only[ZB,beq_self_eq_true,XA];exact h
theorem Qio{α β:Type}(P:Program)(x:Sem α)(f:α->Sem β):Xk P (x>>=f)=(Xk P x).bind fun a=>Xk P (f a):=by
 show Xk P (x.bind f)=_;induction x with
 |pure a=>rfl
 |program k ih=>simp only[XM,Xk];exact ih P
 |mark m k ih=>simp only[XM,Xk];exact ih
 |_=>simp[XM,Xk]
theorem Qba{α:Type}(P:Program)(a:α):Xk P (pure a:Sem α)=some a:=rfl
theorem Ze4(kind:TypeDesc)(k:Value):∀(l1 l2:List MapEntry) (i:Nat) (r:Option (Nat×Value)),l1.map (·.key)=l2.map (·.key)->R kind k l1 i=some r->
  (r=none∧R kind k l2 i=some none)∨∃(j:Nat) (v:Value) (e:MapEntry),r=some (i+j,v)∧l2[j]? =some e∧R kind k l2 i=some (some (i+j,e.val))
 |[],[],i,r,_,h=>by simp[R]at h;subst h;exact .inl ⟨rfl,rfl⟩
 |[],_::_,_,_,hk,_=>by simp at hk
 |_::_,[],_,_,hk,_=>by simp at hk
 |a::l1,b::l2,i,r,hk,h=>by
  simp only[QQ,List.cons.injEq]at hk;obtain⟨hk0,hk⟩:=hk;simp only[R,hk0]at h⊢;split at h
  ·rename_i hs;cases h;exact .inr ⟨0,a.val,b,rfl,rfl,by simp[hs]⟩
  ·rename_i hs;rcases Ze4 kind k l1 l2 (i+1) r hk h with⟨h1,h2⟩|⟨j,v,e,h1,h2,h3⟩
   ·exact .inl ⟨h1,by simp[hs,h2]⟩
   ·exact .inr ⟨j+1,v,e,by rw[h1];congr 2;omega,by simpa using h2,by simp[hs,h3];omega⟩
  ·cases h
theorem Zkm(kind:TypeDesc)(k:Value):∀(l1 l2:List MapEntry) (i:Nat),l1.map (·.key)=l2.map (·.key)->R kind k l1 i=none->R kind k l2 i=none
 |[],[],i,_,h=>by simp[R]at h
 |[],_::_,_,hk,_=>by simp at hk
 |_::_,[],_,hk,_=>by simp at hk
 |a::l1,b::l2,i,hk,h=>by
  simp only[QQ,List.cons.injEq]at hk;obtain⟨hk0,hk⟩:=hk;simp only[R,hk0]at h⊢;split at h
  ·cases h
  ·rename_i hs;simp[hs,Zkm kind k l1 l2 (i+1) hk h]
  ·rename_i hs;simp[hs]
theorem Zbj(P:Program)(t:TypeId)(k:Value):∀(l1 l2:List MapEntry) (i:Nat) (r:Option (Nat×Value)),l1.map (·.key)=l2.map (·.key)->Xk P (ZF t k l1 i)=some r->
  (r=none∧Xk P (ZF t k l2 i)=some none)∨∃(j:Nat) (v:Value) (e:MapEntry),r=some (i+j,v)∧l2[j]? =some e∧Xk P (ZF t k l2 i)=some (some (i+j,e.val))
 |[],[],i,r,_,h=>by simp[ZF,Qba]at h;subst h;exact .inl ⟨rfl,rfl⟩
 |[],_::_,_,_,hk,_=>by simp at hk
 |_::_,[],_,_,hk,_=>by simp at hk
 |a::l1,b::l2,i,r,hk,h=>by
  simp only[QQ,List.cons.injEq]at hk;obtain⟨hk0,hk⟩:=hk;simp only[ZF,Qio,hk0]at h⊢;cases hb:Xk P (Op.equal t k b.key)with
  |none=>simp[hb]at h
  |some c=>
   simp only[hb,ZP]at h⊢;cases c with
   |true=>simp[Qba]at h;subst h;exact .inr ⟨0,a.val,b,rfl,rfl,by simp[Qba]⟩
   |false=>
    simp only[ZM,if_false]at h⊢;rcases Zbj P t k l1 l2 (i+1) r hk h with⟨h1,h2⟩|⟨j,v,e,h1,h2,h3⟩
    ·exact .inl ⟨h1,h2⟩
    ·exact .inr ⟨j+1,v,e,by rw[h1];congr 2;omega,by simpa using h2,by rw[h3];congr 3;omega⟩
theorem Zsq(P:Program)(t:TypeId)(k:Value){l1 l2:List MapEntry}{r:Option (Nat×Value)}(hk:l1.map (·.key)=l2.map (·.key))(h:Xk P (ZC t k l1)=some r):
  (r=none∧Xk P (ZC t k l2)=some none)∨∃(j:Nat) (v:Value) (e:MapEntry),r=some (j,v)∧l2[j]? =some e∧Xk P (ZC t k l2)=some (some (j,e.val)):=by
 simp only[ZC,Qio]at h⊢;cases hu:Xk P (underlying t)with
 |none=>simp[hu]at h
 |some d=>
  simp only[hu,ZP]at h⊢;cases hf:R d k l1 0 with
  |some q=>
   simp only[hf,Qba,ZG]at h;subst h;rcases Ze4 d k l1 l2 0 q hk hf with⟨h1,h2⟩|⟨j,v,e,h1,h2,h3⟩
   ·exact .inl ⟨h1,by simp[h2,Qba]⟩
   ·exact .inr ⟨j,v,e,by simpa using h1,h2,by simp[h3,Qba]⟩
  |none=>
   simp only[hf]at h;rw[Zkm d k l1 l2 0 hk hf];simp only;rcases Zbj P t k l1 l2 0 r hk h with⟨h1,h2⟩|⟨j,v,e,h1,h2,h3⟩
   ·exact .inl ⟨h1,h2⟩
   ·exact .inr ⟨j,v,e,by simpa using h1,h2,by simpa using h3⟩
abbrev Qr:=Value×SV×Nat
def Kj(es:List Qr):List MapEntry:=es.map fun e=>{key:=e.1,val:=.bool false,born:=e.2.2}
def Qbj(P:Program)(kt:TypeId)(k:Value)(es:List Qr):Option (Option Nat):=
 match Xk P (ZC kt k (Kj es))with
 |none=>none
 |some none=>some none
 |some (some (j,_))=>some (some j)
structure Wm (M:Qd) (U:Env) (arr:Array MapEntry) (es:List Qr):Prop where
 sz:arr.size=es.length
 rep:∀(i:Nat) (k:Value) (x:SV) (b:Nat),es[i]? =some (k,x,b)->∃e:MapEntry,arr[i]? =some e∧e.key=k∧e.born=b∧Qf M U e.val x
theorem Wm.keys{M:Qd}{U:Env}{arr:Array MapEntry}{es:List Qr}(h:Wm M U arr es):(Kj es).map (·.key)=arr.toList.map (·.key):=by
 apply QM;intro i;simp only[Kj,List.map_map,ZZ];by_cases hi:i<es.length
 ·obtain⟨e,h1,h2,_⟩:=h.rep i es[i].1 es[i].2.1 es[i].2.2 (by simp[hi]);rw[<-ZH]at h1;simp[hi,h1,h2]
 ·rw[ZY (by omega),ZY (by simp;rw[h.sz];omega)];rfl
theorem Qbf{P:Program}{M:Qd}{U:Env}{arr:Array MapEntry}{es:List Qr}{kt:TypeId}{k:Value}(h:Wm M U arr es)(w:World):
  (Qbj P kt k es=some none->(ZC kt k arr.toList).run P w=.ok none w)∧
  (∀j,Qbj P kt k es=some (some j)->∃(e:MapEntry) (x:Qr),arr[j]? =some e∧es[j]? =some x∧e.key=x.1∧e.born=x.2.2∧Qf M U e.val x.2.1∧(ZC kt k arr.toList).run P w=.ok (some (j,e.val)) w):=by
 unfold Qbj;cases hf:Xk P (ZC kt k (Kj es))with
 |none=>exact⟨fun h=>by simp at h,fun j h=>by simp at h⟩
 |some r=>
  rcases Zsq P kt k h.keys hf with⟨rfl,h2⟩|⟨j,v,e,rfl,h2,h3⟩
  ·exact⟨fun _=>Qff h2 w,fun j h=>by simp at h⟩
  ·refine⟨fun h=>by simp at h,fun j' hj=>?_⟩;simp at hj;subst hj;rw[ZH]at h2;have hlt:j<es.length:=by have:=(ZD.1 h2).1;rw[h.sz]at this;exact this
   obtain⟨e',a1,a2,a3,a4⟩:=h.rep j es[j].1 es[j].2.1 es[j].2.2 (by simp[hlt]);rw[h2]at a1;cases a1;exact⟨e,es[j],h2,by simp[hlt],a2,a3,a4,Qff h3 w⟩
def Qe1(P:Program)(empty:Bool)(kt:TypeId)(k:Value):Bool:=(Xk P (ZK empty 10000 kt k)).isSome
theorem Qd2{P:Program}{empty:Bool}{kt:TypeId}{k:Value}(h:Qe1 P empty kt k=true)(w:World):(ZK empty 10000 kt k).run P w=.ok () w:=by unfold Qe1 at h;obtain⟨u,hu⟩:=Option.isSome_iff_exists.1 h;exact Qff hu w
theorem Q9.Qgl{M:Qd}{U:Env}{w:World}{s:Nat}{es:List Qr}{c:Nat}{p:Place}(h:Q9 M U w s (.map es c))(hp:U s=some p):∃arr,w.heap[p.block]? =some (.map arr c)∧Wm M U arr es:=by obtain⟨q,arr,h1,h2,h3,h4⟩:=h;rw[hp]at h1;cases h1;exact⟨arr,h2,h3,h4⟩
def valOf(t:Ty):SV->Option t.El
 |.pv p=>t.of p
 |_=>none
def Qvt(row:List Ty):SV->Option (Qj row)
 |.pv (.lit (.agg cs))=>ofRow row (cs.toList.map .lit)
 |.agg l=>match Un l with
  |some ps=>ofRow row ps
  |none=>none
 |_=>none
def Qe.Qcy:(a:Qe)->SV->Option a.El
 |.val t=>valOf t
 |.agg row=>Qvt row
theorem Qe.Qen{M:Qd}{U:Env}{a:Qe}{x:SV}{v:Value}{y:a.El}(h:a.Qcy x=some y)(hx:Qf M U v x):Qf M U v (a.raw y):=by
 cases a with
 |val t=>
  have h:valOf t x=some y:=h;unfold valOf at h;split at h
  ·cases hx with
   |pv hp=>exact .pv (Ty.Zab h hp)
  ·cases h
 |agg row=>
  replace h:Qvt row x=some y:=h;have fin:∀(cs:Array Value) (l:List PV),ofRow row l=some y->cs.size=l.length->(∀(i:Nat) (u:Value) (q:PV),cs[i]? =some u->l[i]? =some q->Z4 M u q)->Qf M U (.agg cs) ((Qe.agg row).raw y):=fun cs l hy hl hr=>by obtain⟨g1,g2⟩:=Qf8 hy;refine .agg cs _ (by simp[hl,g1]) fun i u z hu hz=>?_;simp only[ZZ,ZR]at hz;obtain⟨q,hq,rfl⟩:=hz;obtain⟨p,hp,himp⟩:=g2 i q hq;exact .pv (himp M u (hr i u p hu hp))
  unfold Qvt at h;split at h
  ·rename_i cs;have:=hx.Zt;subst this;refine fin cs _ h (by simp) fun i u q hu hq=>?_;simp only[ZZ,ZR,ZH]at hq;obtain⟨q',hq',rfl⟩:=hq;rw[hu]at hq';cases hq';exact .lit _
  ·split at h
   ·rename_i l ps hps;have e:=Qdh hps;subst e;cases hx with
    |agg cs _ hl hr=>
     refine fin cs ps h (by simpa using hl) fun i u q hu hq=>?_;have:=hr i u (.pv q) hu (by simp[hq]);cases this with
     |pv h=>exact h
   ·cases h
  ·cases h
theorem Ty.Ysy{M:Qd}{v:Value}:∀{t:Ty} {x:t.El},t.scalar=true->Z4 M v (t.pv x)->v=t.toV x
 |.int _,_,_,h=>by cases h;rfl
 |.bool,_,_,h=>by cases h;rfl
 |.str,_,_,h=>by cases h;rfl
theorem Qy3:∀(ts:List Ty) (x:Qj ts),ts.all Ty.scalar=true->Zs ts x=(Vd ts x).map .lit
 |[],_,_=>rfl
 |[t],x,h=>by cases t<;>first|rfl|(simp[Ty.scalar]at h)
 |t::t'::ts,x,h=>by simp only[Q2,C]at h;have:=Qy3 (t'::ts) x.2 (by simp only[Q2,C];exact h.2);simp only[Zs,Vd,QQ,this];cases t<;>first|rfl|(simp[Ty.scalar]at h)
theorem Qqx{M:Qd}{U:Env}{a:Qe}{x:a.El}{v:Value}(hs:a.scalar=true)(h:Qf M U v (a.raw x)):v=a.Z5 x:=by
 cases a with
 |val t=>
  cases h with
  |pv h=>exact Ty.Ysy hs h
 |agg row=>
  have e:=Qy3 row x hs;simp only[Qe.raw,e]at h;cases h with
  |agg cs _ hl hr=>
   show _=Value.agg (Vd row x).toArray;congr 1;apply Array.ext
   ·simpa using hl
   ·intro i h1 h2;have:=hr i cs[i] (.lit ((Vd row x).toArray[i])) (by simp[h1]) (by simp at h2;simp[h2]);rw[this.Zt]
def Xi{K V:Type}(eq:K->K->Bool)(k:K):List (K×V)->Nat->Option (Nat×V)
 |[],_=>none
 |e::l,i=>match eq k e.1 with
  |true=>some (i,e.2)
  |false=>Xi eq k l (i+1)
theorem Vg{k v:Qe}:∀(l:List (k.El×v.El)) (n i:Nat),(Xg k v n l)[i]? =(l[i]?).map fun x=>(k.Z5 x.1,v.raw x.2,n+i)
 |[],n,i=>by simp[Xg]
 |x::l,n,i=>by
  cases i with
  |zero=>simp[Xg]
  |succ i=>simp only[Xg,QU,Vg l (n+1) i];congr 1;funext x;rw[Nat.add_right_comm,ZX]
theorem Qw8{k v:Qe}(l:List (k.El×v.El))(n j:Nat)(x:k.El×v.El):Xg k v n (l.set j x)=(Xg k v n l).set j (k.Z5 x.1,v.raw x.2,n+j):=by
 apply QM;intro i;rw[Vg,QN,QN,Qcl,Vg];split
 ·rename_i e;subst e;split<;>rfl
 ·rfl
theorem Zir{k v:Qe}(l:List (k.El×v.El))(n:Nat)(x:k.El×v.El):Xg k v n (l++[x])=Xg k v n l++[(k.Z5 x.1,v.raw x.2,n+l.length)]:=by
 apply QM;intro i;rw[Vg,QG,QG,Qcl,Vg];split
 ·rfl
 ·rename_i h;by_cases e:i-l.length=0
  ·have:i=l.length:=by omega
   subst this;simp
  ·obtain⟨m,hm⟩:=Nat.exists_eq_succ_of_ne_zero e;rw[hm];simp
theorem Zfi{d:TypeDesc}{k v:Qe}(hd:Jc d k=true)(x:k.El):∀(l:List (k.El×v.El)) (n i:Nat),
  ∃r,R d (k.Z5 x) (Kj (Xg k v n l)) i=some r∧r.map (·.1)=(Xi k.eqv x l i).map (·.1)
 |[],n,i=>⟨none,rfl,rfl⟩
 |y::l,n,i=>by
  obtain⟨r,h1,h2⟩:=Zfi hd x l (n+1) (i+1);have hs:ZI d (k.Z5 x) (k.Z5 y.1)=some (k.eqv x y.1):=by
   unfold Jc at hd;split at hd
   ·rename_i a b;show ZI (.int _) (.int b x) (.int b y.1)=some (U2 x y.1);simp only[ZI,if_true];rfl
   ·show ZI .string (.string x) (.string y.1)=some (Qc x y.1);have key:∀a b:ByteArray,ZI .string (.string a) (.string b)=some (Qc a b):=fun a b=>by simp only[ZI,Qj0]
    exact key x y.1
   ·show ZI .bool (.bool x) (.bool y.1)=some (Qfm x y.1);have key:∀a b:Bool,ZI .bool (.bool a) (.bool b)=some (Qfm a b):=by decide
    exact key x y.1
   ·cases hd
  show∃r,R d (k.Z5 x) ({key:=k.Z5 y.1,val:=.bool false,born:=n}::Kj (Xg k v (n+1) l)) i=some r∧_;simp only[R,hs,Xi];cases k.eqv x y.1 with
  |true=>exact⟨_,rfl,rfl⟩
  |false=>exact⟨r,h1,h2⟩
theorem Zo0{P:Program}{kt:TypeId}{d:TypeDesc}(hu:P.underlying kt=some d){k v:Qe}(hd:Jc d k=true)(x:k.El)(l:List (k.El×v.El)):
  Qbj P kt (k.Z5 x) (Xg k v 0 l)=some ((Xi k.eqv x l 0).map (·.1)):=by
 obtain⟨r,h1,h2⟩:=Zfi hd x l 0 0;have:Xk P (ZC kt (k.Z5 x) (Kj (Xg k v 0 l)))=some r:=by
  unfold ZC;rw[Qio];have:Xk P (underlying kt)=some d:=by unfold underlying;rw[Qio];show(some P).bind _=_;simp only[ZP,hu,Qba]
  rw[this];simp only[ZP,h1,Qba]
 unfold Qbj;rw[this];cases r with
 |none=>simp only[Option.map_none]at h2;rw[<-h2]
 |some p=>simp only[ZV]at h2;rw[<-h2]
theorem Qxo{K V:Type}{eq:K->K->Bool}{k:K}:∀{l:List (K×V)} {n j:Nat} {v:V},Xi eq k l n=some (j,v)->∃i e,j=n+i∧l[i]? =some e∧e.2=v∧eq k e.1=true
 |[],n,j,v,h=>by cases h
 |e::l,n,j,v,h=>by
  simp only[Xi]at h;split at h
  ·rename_i he;cases h;exact⟨0,e,rfl,rfl,rfl,he⟩
  ·obtain⟨i,e',h1,h2,h3,h4⟩:=Qxo h;exact⟨i+1,e',by omega,by simpa using h2,h3,h4⟩
def Qe.ofZ:(a:Qe)->Value->Option a.El
 |a,z=>a.Qcy (.lit z)
def Y6{K V:Type}(eq:K->K->Bool)(k:K)(l:List (K×V))(z:V):V:=match Xi eq k l 0 with
 |some p=>p.2
 |none=>z
def Wc{K V:Type}(eq:K->K->Bool)(k:K)(l:List (K×V)):Bool:=(Xi eq k l 0).isSome
def Jf{K V:Type}(eq:K->K->Bool)(k:K)(x:V)(l:List (K×V)):List (K×V):=match Xi eq k l 0 with
 |some p=>l.set p.1 (k,x)
 |none=>l++[(k,x)]
def Qk2{K V:Type}(eq:K->K->Bool)(k:K)(l:List (K×V)):Nat:=match Xi eq k l 0 with
 |some p=>p.1
 |none=>l.length
theorem Wk.rep{M:Qd}{U:Env}{w:World}{s:Nat}{es:List Qr}{c:Nat}{p:Place}(h:Wk M U w s es c)(hp:U s=some p):∃arr,w.heap[p.block]? =some (.map arr c)∧Wm M U arr es:=by obtain⟨q,arr,h1,h2,h3,h4⟩:=h;rw[hp]at h1;cases h1;exact⟨arr,h2,h3,h4⟩
def Zkt(H:List Qb):Qo:=.eff (.mp H.length) (H++[.map [] 0]) [] []
theorem Znm{P:Program}{M:Qd}{U:Env}{H:List Qb}{w:World}{K:Qv}(hm:Mem M U H w){t:TypeId}(h:(Zkt H).holds H K):Qz P (XB t none) M U H w K:=by
 have hrun:(XB t none).run P w=.ok (.map (some w.heap.size)) (w.alloc (.map #[] 0)):=by simp[XB]
 obtain⟨g1,g2⟩:=hm.alloc (w':=w.alloc (.map #[] 0)) (o:=.map #[] 0) (so:=.map [] 0) (cap:=0) rfl
  ⟨_,#[],Env.set_self ..,heap_alloc_new w _,rfl,fun i k x b hi=>by simp at hi⟩
 exact⟨_,_,hrun,_,_,[],[],M,_,h,.mp _ _ (Env.set_self ..),g1,g2⟩
def Qfz(P:Program)(tab:Qp)(H:List Qb)(t:Nat)(m k:SV)(ok:Bool):Qo:=
 match tab.lookup t with
 |some {desc:=.map kt et,..}=>match k with
  |.pv (.lit kv)=>match m with
   |.mp s=>match H[s]? with
    | some (.map es c)=>if Qe1 P es.isEmpty kt kv then match Qbj P kt kv es with
      |some (some j)=>match es[j]? with
       |some e=>.ok (if ok then .tup [e.2.1,.lit (.bool true)]else e.2.1)
       |none=>.fail
      |some none=>match tab.lookup et with
       |some i=>.ok (if ok then .tup [.lit i.zero,.lit (.bool false)]else .lit i.zero)
       |none=>.fail
      |none=>.fail
     else .fail
    |_=>.fail
   |.pv (.lit (.map none))=>if Qe1 P true kt kv then match tab.lookup et,tab.lookup kt with
     |some i,some _=>.ok (if ok then .tup [.lit i.zero,.lit (.bool false)]else .lit i.zero)
     |_,_=>.fail
    else .fail
   |_=>.fail
  |_=>.fail
 |_=>.fail
theorem Qa8{M:Qd}{U:Env}{v:Value}{x:SV}{b ok:Bool}(h:Qf M U v x):Qf M U (if ok then .tuple #[v,.bool b]else v) (if ok then .tup [x,.lit (.bool b)]else x):=by
 cases ok with
 |false=>simpa using h
 |true=>
  simp only[if_true];refine .tup _ _ rfl fun i u y hu hy=>?_;match i with
  |0=>simp at hu hy;subst hu;subst hy;exact h
  |1=>simp at hu hy;subst hu;subst hy;exact .pv (.lit _)
  |i+2=>simp at hy
theorem Qau{P:Program}{t:TypeId}{i:TI}(h:Jd P t i)(w:World):(zeroValue t).run P w=.ok i.zero w:=by obtain⟨n,hn,_,_,h3⟩:=h.inf;simp[zeroValue,typeInfo,hn,h3]
theorem Qut{P:Program}{tab:Qp}(htab:Q6 P tab){M:Qd}{U:Env}{H:List Qb}{w:World}{K:Qv}(hm:Mem M U H w){t:Nat}{m k:SV}{vm vk:Value}{ok:Bool}(hmr:Qf M U vm m)(hkr:Qf M U vk k)
  (h:(Qfz P tab H t m k ok).holds H K):Qz P (ZN t vm vk ok) M U H w K:=by
 unfold Qfz at h;split at h
 ·rename_i kt et sz' by' zr rw' hte;have hu:P.underlying t=some (.map kt et):=(htab.get hte).und;split at h
  ·rename_i kv;have:=hkr.Zt;subst this;split at h
   ·rename_i s;split at h
    ·rename_i es c ho;split at h
     ·rename_i hko;cases hmr with
      |mp _ p hp=>
       obtain⟨arr,hheap,hrep⟩:=(hm.own s _ ho).Qgl hp;have hempty:arr.isEmpty=es.isEmpty:=by have:=hrep.sz;simp only[XL,this];cases es<;>simp
       obtain⟨f1,f2⟩:=Qbf (P:=P) (kt:=kt) (k:=vk) hrep w;have hget:=run_getObj_map (P:=P) hheap;have hkey:=Qd2 hko w;rw[<-hempty]at hkey;split at h
       ·rename_i j hj;obtain⟨e,x,a1,a2,a3,a4,a5,a6⟩:=f2 j hj;rw[a2]at h;simp only at h;refine Qz.same hm ?_ (Qa8 (ok:=ok) (b:=true) a5) h;simp[ZN,run_underlying hu,hget,hkey,a6]
       ·rename_i hj;split at h
        ·rename_i i hi;refine Qz.same hm ?_ (Qa8 (ok:=ok) (b:=false) (.pv (.lit _))) h;simp[ZN,run_underlying hu,hget,hkey,f1 hj,Qau (htab.get hi)]
        ·exact h.elim
       ·exact h.elim
     ·exact h.elim
    ·exact h.elim
   ·split at h
    ·rename_i hko;have:=hmr.Zt;subst this;have hkey:=Qd2 hko w;split at h
     ·rename_i i ik hi hik;have hnone:(ZC kt vk []).run P w=.ok none w:=by simp only[ZC,R,ZE,run_underlying (htab.get hik).und,J,QC]
      refine Qz.same hm ?_ (Qa8 (ok:=ok) (b:=false) (.pv (.lit _))) h;simp[ZN,run_underlying hu,hkey,hnone,Qau (htab.get hi)]
     ·exact h.elim
    ·exact h.elim
   ·exact h.elim
  ·exact h.elim
 ·exact h.elim
def Qov(P:Program)(tab:Qp)(H:List Qb)(t:Nat)(m k x:SV):Qo:=
 match tab.lookup t,m,k with
 |some {desc:=.map kt et,..},.mp s,.pv (.lit kv)=>match H[s]? with
  | some (.map es c)=>if Qe1 P false kt kv then match Qbj P kt kv es with
    |some (some j)=>match es[j]? with
     |some e=>if ZB 10000 e.1 kv then .eff .any (H.set s (.map (es.set j (kv,x,e.2.2)) c)) [s] []else .fail
     |none=>.fail
    |some none=>.eff .any (H.set s (.map (es++[(kv,x,c)]) (c+1))) [s] []
    |none=>.fail
   else .fail
  |_=>.fail
 |_,_,_=>.fail
theorem Qa4{P:Program}{w:World}{b:Nat}{es:Array MapEntry}{c:Nat}(h:w.heap[b]? =some (.map es c))(o:Obj):(setObj b o).run P w=.ok () {w with heap:=w.heap.setIfInBounds b o}:=by simp[setObj,QL,h]
theorem Qu0{w:World}{b k:Nat}{o:Obj}(h:k≠b):(w.heap.setIfInBounds b o)[k]? =w.heap[k]? :=Array.getElem?_setIfInBounds_ne (Ne.symm h)
theorem Wm.set{M:Qd}{U:Env}{arr:Array MapEntry}{es:List Qr}{j:Nat}{e:MapEntry}{k:Value}{v:Value}{x:SV}{b:Nat}(h:Wm M U arr es)(hj:arr[j]? =some e)(hx:Qf M U v x)(hb:e.born=b)
  (f:MapEntry->MapEntry) (hf:f e={e with key:=k,val:=v}):Wm M U (arr.modify j f) (es.set j (k,x,b)):=by
 refine⟨by simp[h.sz],fun i k' x' b' hi=>?_⟩;have hlt:j<arr.size:=(ZD.1 hj).1;rw[QN]at hi;split at hi
 ·rename_i e';subst e';rw[if_pos (by rw[<-h.sz];exact hlt)]at hi;cases hi;refine⟨{e with key:=k,val:=v},?_,rfl,hb,hx⟩;rw[QV];simp[hj,hf]
 ·rename_i e';obtain⟨q,a1,a2⟩:=h.rep i k' x' b' hi;exact⟨q,by rw[QV,if_neg e'];exact a1,a2⟩
theorem Wm.push{M:Qd}{U:Env}{arr:Array MapEntry}{es:List Qr}{k v:Value}{x:SV}{c:Nat}(h:Wm M U arr es)(hx:Qf M U v x):Wm M U (arr.push {key:=k,val:=v,born:=c}) (es++[(k,x,c)]):=by
 refine⟨by simp[h.sz],fun i k' x' b' hi=>?_⟩;rw[QG]at hi;split at hi
 ·rename_i hlt;obtain⟨q,a1,a2⟩:=h.rep i k' x' b' hi;exact⟨q,by rw[QZ];rw[if_neg (by rw[h.sz];omega)];exact a1,a2⟩
 ·rename_i hlt;have e:i=es.length:=by
   by_cases e:i=es.length
   ·exact e
   ·rw[ZY (by simp;omega)]at hi;cases hi
  subst e;simp at hi;obtain⟨rfl,rfl,rfl⟩:=hi;exact⟨_,by rw[QZ,if_pos h.sz.symm],rfl,rfl,hx⟩
theorem Qj6{P:Program}{M:Qd}{U:Env}{H:List Qb}{w:World}{K:Qv}(hm:Mem M U H w){s:Nat}{es es':List Qr}{c c':Nat}{p:Place}{arr arr':Array MapEntry}(ho:H[s]? =some (.map es c))(hp:U s=some p)
  (hheap:w.heap[p.block]? =some (.map arr c)) (hr:Wm M U arr' es'):Mem M U (H.set s (.map es' c')) {w with heap:=w.heap.setIfInBounds p.block (.map arr' c')}∧Fr M U H w M U (H.set s (.map es' c')) {w with heap:=w.heap.setIfInBounds p.block (.map arr' c')} H.length [s] []:=by
 have hlt:p.block<w.heap.size:=(ZD.1 hheap).1;exact hm.put ho rfl hp (fun b hb=>Qu0 hb) (by simp) rfl ⟨p,arr',hp,by simp[hlt],hr.sz,hr.rep⟩
theorem Zej{P:Program}{tab:Qp}(htab:Q6 P tab){M:Qd}{U:Env}{H:List Qb}{w:World}{K:Qv}(hm:Mem M U H w){t:Nat}{m k x:SV}{vm vk v:Value}(hmr:Qf M U vm m)(hkr:Qf M U vk k)(hx:Qf M U v x)
  (h:(Qov P tab H t m k x).holds H K):Qcb P (ZW t vm vk v) M U H w K:=by
 unfold Qov at h;split at h
 ·rename_i kt et sz' by' zr rw' s kv hte;have hu:P.underlying t=some (.map kt et):=(htab.get hte).und;have:=hkr.Zt;subst this;split at h
  ·rename_i es c ho;split at h
   ·rename_i hko;cases hmr with
    |mp _ p hp=>
     obtain⟨arr,hheap,hrep⟩:=(hm.own s _ ho).Qgl hp;obtain⟨f1,f2⟩:=Qbf (P:=P) (kt:=kt) (k:=vk) hrep w;have hget:=run_getObj_map (P:=P) hheap;have hkey:=Qd2 hko w;split at h
     ·rename_i j hj;obtain⟨e,x',a1,a2,a3,a4,a5,a6⟩:=f2 j hj;rw[a2]at h;simp only at h;split at h
      ·rename_i hsb;have hks:(ZJ (((arr[j]?).map (·.key)).getD vk) vk).run P w=.ok vk w:=by rw[a1];simp only[ZV,XG,a3];simp[ZJ,hsb]
       obtain⟨g1,g2⟩:=Qj6 (P:=P) (K:=K) (c':=c) hm ho hp hheap (hrep.set a1 hx a4 (fun e=>{e with key:=vk,val:=v}) rfl);refine⟨_,?_,.any,_,[s],[],M,U,h,rfl,g1,g2⟩;simp[ZW,run_underlying hu,hget,hkey,a6,hks,Qa4 hheap]
      ·exact h.elim
     ·rename_i hj;obtain⟨g1,g2⟩:=Qj6 (P:=P) (K:=K) (c':=c+1) hm ho hp hheap (hrep.push (k:=vk) (c:=c) hx);refine⟨_,?_,.any,_,[s],[],M,U,h,rfl,g1,g2⟩;simp[ZW,run_underlying hu,hget,hkey,f1 hj,Qa4 hheap]
     ·exact h.elim
   ·exact h.elim
  ·exact h.elim
 ·exact h.elim
def Qqz(P:Program)(tab:Qp)(H:List Qb)(t:Nat)(m k:SV):Qo:=
 match tab.lookup t,m,k with
 |some {desc:=.map kt et,..},.mp s,.pv (.lit kv)=>match H[s]? with
  | some (.map es c)=>if Qe1 P false kt kv then match Qbj P kt kv es with
    |some (some j)=>match es[j]? with
     |some e=>if ZB 10000 e.1 kv then .eff (.tup [e.2.1,.lit (.int .i64 e.2.2)]) (H.set s (.map (es.set j (kv,e.2.1,e.2.2)) c)) [s] []else .fail
     |none=>.fail
    |some none=>match tab.lookup et with
     |some i=>.eff (.tup [.lit i.zero,.lit (.int .i64 c)]) (H.set s (.map (es++[(kv,.lit i.zero,c)]) (c+1))) [s] []
     |none=>.fail
    |none=>.fail
   else .fail
  |_=>.fail
 |_,_,_=>.fail
theorem Qqu{M:Qd}{U:Env}{v u:Value}{x y:SV}(h:Qf M U v x)(k:Qf M U u y):Qf M U (.tuple #[v,u]) (.tup [x,y]):=by
 refine .tup _ _ rfl fun i a b ha hb=>?_;match i with
 |0=>simp at ha hb;subst ha;subst hb;exact h
 |1=>simp at ha hb;subst ha;subst hb;exact k
 |i+2=>simp at hb
theorem Zi0{P:Program}{tab:Qp}(htab:Q6 P tab){M:Qd}{U:Env}{H:List Qb}{w:World}{K:Qv}(hm:Mem M U H w){t:Nat}{m k:SV}{vm vk:Value}(hmr:Qf M U vm m)(hkr:Qf M U vk k)
  (h:(Qqz P tab H t m k).holds H K):Qz P (Q1 t vm vk) M U H w K:=by
 unfold Qqz at h;split at h
 ·rename_i kt et sz' by' zr rw' s kv hte;have hu:P.underlying t=some (.map kt et):=(htab.get hte).und;have:=hkr.Zt;subst this;split at h
  ·rename_i es c ho;split at h
   ·rename_i hko;cases hmr with
    |mp _ p hp=>
     obtain⟨arr,hheap,hrep⟩:=(hm.own s _ ho).Qgl hp;obtain⟨f1,f2⟩:=Qbf (P:=P) (kt:=kt) (k:=vk) hrep w;have hget:=run_getObj_map (P:=P) hheap;have hkey:=Qd2 hko w;split at h
     ·rename_i j hj;obtain⟨e,x',a1,a2,a3,a4,a5,a6⟩:=f2 j hj;rw[a2]at h;simp only at h;split at h
      ·rename_i hsb;have hks:(ZJ e.key vk).run P w=.ok vk w:=by rw[a3];simp[ZJ,hsb]
       obtain⟨g1,g2⟩:=Qj6 (P:=P) (K:=K) (c':=c) hm ho hp hheap (hrep.set a1 a5 a4 (fun e=>{e with key:=vk}) rfl);refine⟨.tuple #[e.val,goInt e.born],_,?_,_,_,[s],[],M,U,h,?_,g1,g2⟩
       ·simp[Q1,run_underlying hu,hget,hkey,a6,hks,Qa4 hheap,a1]
       ·rw[a4];exact Qqu a5 (.pv (.lit _))
      ·exact h.elim
     ·rename_i hj;split at h
      ·rename_i i hi;obtain⟨g1,g2⟩:=Qj6 (P:=P) (K:=K) (c':=c+1) hm ho hp hheap (hrep.push (k:=vk) (c:=c) (v:=i.zero) (x:=.lit i.zero) (.pv (.lit _)));refine⟨.tuple #[i.zero,goInt c],_,?_,_,_,[s],[],M,U,h,Qqu (.pv (.lit _)) (.pv (.lit _)),g1,g2⟩;simp[Q1,run_underlying hu,hget,hkey,f1 hj,Qa4 hheap,Qau (htab.get hi)]
      ·exact h.elim
     ·exact h.elim
   ·exact h.elim
  ·exact h.elim
 ·exact h.elim
def Qr2(H:List Qb)(m st x:SV):Qo:=
 match m,st with
 |.mp s,.pv (.lit (.int _ n))=>match H[s]? with
  |some (.map es c)=>match es.findIdx? (fun e=>(e.2.2:Int)==n)with
   |some j=>match es[j]? with
    |some e=>.eff .any (H.set s (.map (es.set j (e.1,x,e.2.2)) c)) [s] []
    |none=>.fail
   |none=>.fail
  |_=>.fail
 |_,_=>.fail
theorem Zcp{P:Program}{M:Qd}{U:Env}{H:List Qb}{w:World}{K:Qv}(hm:Mem M U H w){t:Nat}{m st x:SV}{vm vs v:Value}(hmr:Qf M U vm m)(hst:Qf M U vs st)(hx:Qf M U v x)
  (h:(Qr2 H m st x).holds H K):Qcb P (QF t vm vs v) M U H w K:=by
 unfold Qr2 at h;split at h
 ·rename_i s k n;have:=hst.Zt;subst this;split at h
  ·rename_i es c ho;split at h
   ·rename_i j hj;split at h
    ·rename_i e he;cases hmr with
     |mp _ p hp=>
      obtain⟨arr,hheap,hrep⟩:=(hm.own s _ ho).Qgl hp;obtain⟨q,a1,a2,a3,a4⟩:=hrep.rep j e.1 e.2.1 e.2.2 he;have hget:=run_getObj_map (P:=P) hheap;have hidx:arr.findIdx? (fun e=>(e.born:Int)==n)=some j:=by
       have hborn:∀i:Nat,(arr[i]?).map (fun e=>(e.born:Int)==n)=(es[i]?).map (fun e=>(e.2.2:Int)==n):=fun i=>by
        by_cases hi:i<es.length
        ·obtain⟨z,b1,b2,b3,_⟩:=hrep.rep i es[i].1 es[i].2.1 es[i].2.2 (by simp[hi]);rw[b1];simp[hi,b3]
        ·rw[ZY (by omega),Array.getElem?_eq_none (by rw[hrep.sz];omega)];rfl
       rw[List.findIdx?_eq_some_iff_getElem]at hj;rw[QA];obtain⟨c1,c2,c3⟩:=hj;have hl:j<arr.size:=by rw[hrep.sz];exact c1
       refine⟨hl,?_,fun i hi=>?_⟩
       ·have:=hborn j;simp only[ZL hl,I c1,ZV,ZG]at this;rw[this];exact c2
       ·have hi2:i<arr.size:=by omega
        have hi3:i<es.length:=by omega
        have:=hborn i;simp only[ZL hi2,I hi3,ZV,ZG]at this;rw[this];exact c3 i hi
      obtain⟨g1,g2⟩:=Qj6 (P:=P) (K:=K) (c':=c) hm ho hp hheap (hrep.set (k:=e.1) a1 hx a3 (fun e=>{e with val:=v}) (by rw[<-a2]));refine⟨_,?_,.any,_,[s],[],M,U,h,rfl,g1,g2⟩;simp[QF,hget,asInt,asIntOf,hidx,Qa4 hheap]
    ·exact h.elim
   ·exact h.elim
  ·exact h.elim
 ·exact h.elim
theorem Zy4{P:Program}{M:Qd}{U:Env}{arr:Array MapEntry}{kt:TypeId}{d:TypeDesc}(hu:P.underlying kt=some d){k v:Qe}(hd:Jc d k=true){l:List (k.El×v.El)}(hr:Wm M U arr (Xg k v 0 l))(x:k.El)(w:World):
  (Xi k.eqv x l 0=none->(ZC kt (k.Z5 x) arr.toList).run P w=.ok none w)∧
  (∀j y,Xi k.eqv x l 0=some (j,y)->∃e,arr[j]? =some e∧j<l.length∧e.key=k.Z5 x∧e.born=j∧Qf M U e.val (v.raw y)∧(ZC kt (k.Z5 x) arr.toList).run P w=.ok (some (j,e.val)) w):=by
 obtain⟨f1,f2⟩:=Qbf (P:=P) (kt:=kt) (k:=k.Z5 x) hr w;have hs:=Zo0 (P:=P) hu hd x l;refine⟨fun h=>f1 (by rw[hs,h];rfl),fun j y h=>?_⟩;obtain⟨e,z,a1,a2,a3,a4,a5,a6⟩:=f2 j (by rw[hs,h];rfl);obtain⟨i,q,b1,b2,b3,b4⟩:=Qxo h;have:i=j:=by omega
 subst this;rw[Vg,b2]at a2;simp only[ZV,ZG]at a2;subst a2;have hk:=Qe.eqv_ok k _ _ b4;refine⟨e,a1,(ZO.1 b2).1,by rw[a3,<-hk],by rw[a4];simp,by rw[<-b3];exact a5,a6⟩
theorem Qvi{M:Qd}{U:Env}:∀{a:Qe} (hs:a.scalar=true) (x:a.El),Qf M U (a.Z5 x) (a.raw x)
 |.val (.int _),_,_=>.pv (.lit _)
 |.val .str,_,_=>.pv (.lit _)
 |.val .bool,_,_=>.pv (.lit _)
 |.val (.seq _),hs,_=>by cases hs
 |.agg row,hs,x=>by have e:=Qy3 row x hs;show Qf M U (.agg (Vd row x).toArray) (.agg ((Zs row x).map .pv));rw[e];refine .agg _ _ (by simp) fun i v y hv hy=>?_;simp only[ZZ,ZR]at hy;obtain⟨q,⟨u,hu,rfl⟩,rfl⟩:=hy;rw[List.getElem?_toArray,hu]at hv;cases hv;exact .pv (.lit _)
theorem Yh5{P:Program}{tab:Qp}(htab:Q6 P tab){kt:Nat}{i:TI}(hi:tab.lookup kt=some i){a:Qe}(h:Qae P tab kt i.desc a=true)(x y:a.El)(w:World):(Op.equal kt (a.Z5 x) (a.Z5 y)).run P w=.ok (a.eqv x y) w:=
 Qod htab (M:=fun _=>none) (U:=fun _=>none) w 2 kt (a.raw x) (a.raw y) _ _ _ (Yoi (d:=i.desc) hi h x y) (Qvi (Qvn h) x) (Qvi (Qvn h) y) Op.maxDepth (by decide)
theorem Zc2{P:Program}{tab:Qp}(htab:Q6 P tab){kt:Nat}{i:TI}(hi:tab.lookup kt=some i){k v:Qe}(h:Qae P tab kt i.desc k=true)(x:k.El)(w:World):∀(l:List (k.El×v.El)) (es:List MapEntry) (n:Nat),
  es.length=l.length->(∀(j:Nat) (z:k.El×v.El),l[j]? =some z->∃e:MapEntry,es[j]? =some e∧e.key=k.Z5 z.1)->
  (Xi k.eqv x l n=none->(ZF kt (k.Z5 x) es n).run P w=.ok none w)∧(∀j y,Xi k.eqv x l n=some (j,y)->∃e,n<=j∧es[j-n]? =some e∧(ZF kt (k.Z5 x) es n).run P w=.ok (some (j,e.val)) w)
 |[],[],n,_,_=>⟨fun _=>by simp[ZF],fun j y hf=>by cases hf⟩
 |[],_::_,n,hl,_=>by simp at hl
 |_::_,[],n,hl,_=>by simp at hl
 |z::l,e::es,n,hl,hk=>by
  obtain⟨e',g1,g2⟩:=hk 0 z rfl;simp only[QB,ZG]at g1;subst g1;have he:=Yh5 htab hi h x z.1 w;rw[<-g2]at he;obtain⟨ih1,ih2⟩:=Zc2 htab hi h x w l es (n+1) (by simpa using hl) (fun j z hz=>by simpa using hk (j+1) z (by simpa using hz));simp only[Xi,ZF,ZE,he,J];cases k.eqv x z.1 with
  |true=>exact⟨fun hf=>(by cases hf),fun j y hf=>(by cases hf;exact⟨e,Nat.le_refl _,by simp,by simp⟩)⟩
  |false=>refine⟨fun hf=>by simpa using ih1 hf,fun j y hf=>?_⟩;obtain⟨e2,q1,q2,q3⟩:=ih2 j y hf;refine⟨e2,by omega,?_,by simpa using q3⟩;rw[show j-n=(j-(n+1))+1 by omega];simpa using q2
theorem Ydr{P:Program}{tab:Qp}{kt:Nat}{d:TypeDesc}{k:Qe}(h:Qae P tab kt d k=true)(x:k.El)(e:MapEntry)(es:List MapEntry)(n:Nat):R d (k.Z5 x) (e::es) n=none:=by
 have hs:∀u,ZI d (k.Z5 x) u=none:=by
  intro u;unfold Qae at h;split at h
  ·split at h
   ·rfl
   ·rfl
   ·cases h
  ·cases h
 simp only[R,hs]
theorem Qe5{P:Program}{tab:Qp}(htab:Q6 P tab){M:Qd}{U:Env}{arr:Array MapEntry}{kt:TypeId}{i:TI}(hi:tab.lookup kt=some i){k v:Qe}(hd:Qcr P tab kt i.desc k=true){l:List (k.El×v.El)}(hr:Wm M U arr (Xg k v 0 l))(x:k.El)(w:World):
  (Xi k.eqv x l 0=none->(ZC kt (k.Z5 x) arr.toList).run P w=.ok none w)∧
  (∀j y,Xi k.eqv x l 0=some (j,y)->∃e,arr[j]? =some e∧j<l.length∧e.key=k.Z5 x∧e.born=j∧Qf M U e.val (v.raw y)∧(ZC kt (k.Z5 x) arr.toList).run P w=.ok (some (j,e.val)) w):=by
 have hu:=(htab.get hi).und;unfold Qcr at hd;split at hd
 ·rename_i hd';exact Zy4 hu hd' hr x w
 ·have hlen:arr.toList.length=l.length:=by have:=hr.sz;rw[Qcl]at this;simpa using this
  have hkeys:∀(j:Nat) (z:k.El×v.El),l[j]? =some z->∃e:MapEntry,arr.toList[j]? =some e∧e.key=k.Z5 z.1:=fun j z hz=>by obtain⟨e,a1,a2,_⟩:=hr.rep j (k.Z5 z.1) (v.raw z.2) (0+j) (by rw[Vg,hz];rfl);exact⟨e,by rw[ZH];exact a1,a2⟩
  obtain⟨f1,f2⟩:=Zc2 htab hi hd x w l arr.toList 0 hlen hkeys;have hfk:∀r,(Xi k.eqv x l 0=none∨∃q,Xi k.eqv x l 0=some q)->(ZF kt (k.Z5 x) arr.toList 0).run P w=.ok r w->(ZC kt (k.Z5 x) arr.toList).run P w=.ok r w:=fun r _ hrun=>by
   unfold ZC;simp only[ZE,run_underlying hu,J];cases hl:arr.toList with
   |nil=>rw[hl]at hrun;simp only[ZF,QC]at hrun;simp only[R,QC];exact hrun
   |cons e es=>rw[Ydr hd x e es 0];rw[hl]at hrun;exact hrun
  refine⟨fun h=>hfk _ (.inl h) (f1 h),fun j y h=>?_⟩;obtain⟨e,_,q2,q3⟩:=f2 j y h;obtain⟨i',q,b1,b2,b3,b4⟩:=Qxo h;have e0:i'=j:=by omega
  subst e0;have hk:=Qe.eqv_ok k _ _ b4;obtain⟨e2,a1,a2,a3,a4⟩:=hr.rep i' (k.Z5 q.1) (v.raw q.2) (0+i') (by rw[Vg,b2];rfl);have:e2=e:=by rw[Nat.sub_zero,ZH,a1]at q2;exact QI q2
  subst this;exact⟨e2,a1,(ZO.1 b2).1,by rw[a2,<-hk],by rw[a3];simp,by rw[<-b3];exact a4,hfk _ (.inr ⟨_,h⟩) q3⟩
def Qzo(P:Program)(tab:Qp)(H:List Qb)(kt et:Nat)(ka va:Qe)(l:List (ka.El×va.El))(k:SV)(ok:Bool):Qo:=
 match tab.lookup kt with
 |none=>.fail
 |some ik=>match Qcr P tab kt ik.desc ka with
  |false=>.fail
  |true=>match tab.lookup et with
   |none=>.fail
   |some ie=>match ka.Qcy k with
    |none=>.fail
    |some kx=>match va.ofZ ie.zero with
     |none=>.fail
     |some z=>.ok (if ok then .tup [va.raw (Y6 ka.eqv kx l z),.lit (.bool (Wc ka.eqv kx l))]else va.raw (Y6 ka.eqv kx l z))
def Qux:TypeDesc->Value->Value->Option Bool
 |.int _,.int k a,.int k' b=>match decide (k=k')with
  |true=>some (decide (a=b))
  |false=>none
 |.string,.string a,.string b=>some (Qc a b)
 |.bool,.bool a,.bool b=>some (Qfm a b)
 |_,_,_=>none
theorem Yli{d:TypeDesc}{a b:Value}{c:Bool}(h:Qux d a b=some c):ZI d a b=some c:=by
 unfold Qux at h;split at h
 ·rename_i k' a k b;split at h
  ·rename_i e;have e:=of_decide_eq_true e;subst e;simp only[ZI,if_true];rw[<-h];rfl
  ·cases h
 ·simp only[ZI,Qj0];exact h
 ·rename_i a b;cases a<;>cases b<;>(rw[<-h];rfl)
 ·cases h
def Qop(d:TypeDesc)(kv:Value)(nf:Qo)(ok:Bool):List Qr->Qo
 |[]=>nf
 |e::es=>match Qux d kv e.1 with
  |some c=>.split c (.ok (if ok then .tup [e.2.1,.lit (.bool true)]else e.2.1)) (Qop d kv nf ok es)
  |none=>.fail
theorem Zc8{H:List Qb}{K:Qv}{d:TypeDesc}{kv:Value}{nf:Qo}{ok:Bool}:∀(es:List Qr) (i:Nat),(Qop d kv nf ok es).holds H K->
  (∃j e,es[j]? =some e∧R d kv (Kj es) i=some (some (i+j,.bool false))∧K (if ok then .tup [e.2.1,.lit (.bool true)]else e.2.1) H [] [])∨
  (R d kv (Kj es) i=some none∧nf.holds H K)
 |[],i,h=>.inr ⟨rfl,h⟩
 |e::es,i,h=>by
  simp only[Qop]at h;split at h
  ·rename_i c hc;have hs:=Yli hc;have hd:Kj (e::es)={key:=e.1,val:=.bool false,born:=e.2.2}::Kj es:=rfl;rw[hd];simp only[R,hs];cases c with
   |true=>exact .inl ⟨0,e,rfl,rfl,h.1 rfl⟩
   |false=>
    rcases Zc8 es (i+1) (h.2 rfl)with⟨j,e',h1,h2,h3⟩|⟨h1,h2⟩
    ·exact .inl ⟨j+1,e',by simpa using h1,by rw[h2];simp;omega,h3⟩
    ·exact .inr ⟨h1,h2⟩
  ·exact h.elim
def Yh2:TypeDesc->Bool
 |.int _=>true
 |.string=>true
 |.bool=>true
 |_=>false
def Qv5(P:Program)(tab:Qp)(kt et:Nat)(es:List Qr)(k:SV)(ok:Bool):Qo:=match k with
 |.pv (.lit kv)=>match tab.lookup kt with
  |none=>.fail
  |some ik=>match Qe1 P es.isEmpty kt kv with
   |false=>.fail
   |true=>Qop ik.desc kv (match tab.lookup et with
    |some i=>.ok (if ok then .tup [.lit i.zero,.lit (.bool false)]else .lit i.zero)
    |none=>.fail) ok es
 |_=>.fail
theorem Zjj{P:Program}{tab:Qp}(htab:Q6 P tab){M:Qd}{U:Env}{H:List Qb}{K:Qv}{kt et:Nat}{es:List Qr}{k:SV}{vk:Value}{ok:Bool}(hkr:Qf M U vk k)
  (h:(Qv5 P tab kt et es k ok).holds H K) {arr:Array MapEntry} (hrep:Wm M U arr es):∃ v x,K x H [] [] ∧ Qf M U v x ∧
   ∀(w:World) (t b:Nat) (c:Nat),P.underlying t=some (.map kt et)->w.heap[b]? =some (.map arr c)->(ZN t (.map (some b)) vk ok).run P w=.ok v w:=by
 unfold Qv5 at h;split at h
 ·rename_i kv;have:=hkr.Zt;subst this;split at h
  ·exact h.elim
  ·rename_i ik hik;split at h
   ·exact h.elim
   ·rename_i hko;have hdk:P.underlying kt=some ik.desc:=(htab.get hik).und;have hempty:arr.isEmpty=es.isEmpty:=by have:=hrep.sz;simp only[XL,this];cases es<;>simp
    have hseek:∀r,R ik.desc vk (Kj es) 0=some r->Qbj P kt vk es=some (r.map (·.1)):=fun r hr=>by
     have:Xk P (ZC kt vk (Kj es))=some r:=by
      unfold ZC;rw[Qio];have:Xk P (underlying kt)=some ik.desc:=by unfold underlying;rw[Qio];show(some P).bind _=_;simp only[ZP,hdk,Qba]
      rw[this];simp only[ZP,hr,Qba]
     unfold Qbj;rw[this];cases r with
     |none=>rfl
     |some p=>rfl
    rcases Zc8 es 0 h with⟨j,e,h1,h2,h3⟩|⟨h1,h2⟩
    ·obtain⟨me,x,a1,a2,a3,a4,a5,_⟩:=(Qbf (P:=P) (kt:=kt) (k:=vk) hrep default).2 j (by rw[hseek _ h2];simp);rw[h1]at a2;cases a2;refine⟨_,_,h3,Qa8 (ok:=ok) (b:=true) a5,fun w t b c hu hheap=>?_⟩;obtain⟨me',x',b1,_,_,_,_,b6⟩:=(Qbf (P:=P) (kt:=kt) (k:=vk) hrep w).2 j (by rw[hseek _ h2];simp);rw[a1]at b1;cases b1;have hkey:=Qd2 hko w;rw[<-hempty]at hkey;simp[ZN,run_underlying hu,run_getObj_map (P:=P) hheap,hkey,b6]
    ·split at h2
     ·rename_i i hi;refine⟨_,_,h2,Qa8 (ok:=ok) (b:=false) (.pv (.lit _)),fun w t b c hu hheap=>?_⟩;have hkey:=Qd2 hko w;rw[<-hempty]at hkey;simp[ZN,run_underlying hu,run_getObj_map (P:=P) hheap,hkey,(Qbf (P:=P) (kt:=kt) (k:=vk) hrep w).1 (by rw[hseek _ h1];rfl),Qau (htab.get hi)]
     ·exact h2.elim
 ·exact h.elim
def Qll(P:Program)(tab:Qp)(H:List Qb)(t:Nat)(m k:SV)(ok:Bool):Qo:=
 match m with
 |.mp s=>match H[s]? with
  |some (.tmap ka va l)=>match tab.lookup t with
   |some {desc:=.map kt et,..}=>Qzo P tab H kt et ka va l k ok
   |_=>.fail
  |some (.map es c)=>match tab.lookup t with
   |some {desc:=.map kt et,..}=>match tab.lookup kt with
    |some ik=>match Yh2 ik.desc with
     |true=>Qv5 P tab kt et es k ok
     |false=>Qfz P tab H t m k ok
    |none=>.fail
   |_=>.fail
  |_=>Qfz P tab H t m k ok
 |_=>Qfz P tab H t m k ok
theorem Zax{P:Program}{tab:Qp}(htab:Q6 P tab){M:Qd}{U:Env}{H:List Qb}{K:Qv}{kt et:Nat}{ka va:Qe}{l:List (ka.El×va.El)}{k:SV}{vk:Value}{ok:Bool}(hkr:Qf M U vk k)
  (h:(Qzo P tab H kt et ka va l k ok).holds H K) {arr:Array MapEntry} (hr:Wm M U arr (Xg ka va 0 l)):∃ v x,K x H [] [] ∧ Qf M U v x ∧
   ∀(w:World) (t b:Nat) (c:Nat),P.underlying t=some (.map kt et)->w.heap[b]? =some (.map arr c)->(ZN t (.map (some b)) vk ok).run P w=.ok v w:=by
 unfold Qzo at h;split at h
 ·exact h.elim
 ·rename_i ik hik;split at h
  ·exact h.elim
  ·rename_i hd;split at h
   ·exact h.elim
   ·rename_i ie hie;split at h
    ·exact h.elim
    ·rename_i kx hkx;split at h
     ·exact h.elim
     ·rename_i z hz;have hvk:=Qqx (Qj9 hd) (Qe.Qen hkx hkr);subst hvk;have hdk:P.underlying kt=some ik.desc:=(htab.get hik).und;have hzr:Qf M U ie.zero (va.raw z):=Qe.Qen (M:=M) (U:=U) hz (.pv (.lit _));cases hf:Xi ka.eqv kx l 0 with
      |none=>
       refine⟨_,_,h,Qa8 (v:=ie.zero) (b:=Wc ka.eqv kx l) (ok:=ok) (by unfold Y6;rw[hf];exact hzr),fun w t b c hu hheap=>?_⟩;have hb:Wc ka.eqv kx l=false:=by unfold Wc;rw[hf];rfl
       rw[hb];simp[ZN,run_underlying hu,run_getObj_map (P:=P) hheap,Qjb htab hik hd,(Qe5 htab hik hd hr kx w).1 hf,Qau (htab.get hie)]
      |some q=>
       obtain⟨j,y⟩:=q;obtain⟨e,a1,a2,a3,a4,a5,_⟩:=(Qe5 htab hik hd hr kx default).2 j y hf;refine⟨_,_,h,Qa8 (v:=e.val) (b:=Wc ka.eqv kx l) (ok:=ok) (by unfold Y6;rw[hf];exact a5),fun w t b c hu hheap=>?_⟩;have hb:Wc ka.eqv kx l=true:=by unfold Wc;rw[hf];rfl
       rw[hb];obtain⟨e',b1,_,_,_,_,b6⟩:=(Qe5 htab hik hd hr kx w).2 j y hf;rw[a1]at b1;cases b1;simp[ZN,run_underlying hu,run_getObj_map (P:=P) hheap,Qjb htab hik hd,b6]
theorem Ztr{P:Program}{tab:Qp}(htab:Q6 P tab){M:Qd}{U:Env}{H:List Qb}{w:World}{K:Qv}(hm:Mem M U H w){t:Nat}{m k:SV}{vm vk:Value}{ok:Bool}(hmr:Qf M U vm m)(hkr:Qf M U vk k)
  (h:(Qll P tab H t m k ok).holds H K):Qz P (ZN t vm vk ok) M U H w K:=by
 unfold Qll at h;split at h
 ·rename_i s;split at h
  ·rename_i ka va l ho;split at h
   ·rename_i kt et _ _ _ _ hte;cases hmr with
    |mp _ p hp=>obtain⟨arr,hheap,hrep⟩:=Wk.rep (hm.own s _ ho) hp;obtain⟨v,x,h1,h2,h3⟩:=Zax htab hkr h hrep;exact Qz.same hm (h3 w t p.block _ (htab.get hte).und hheap) h2 h1
   ·exact h.elim
  ·rename_i es c ho;split at h
   ·rename_i kt et _ _ _ _ hte;split at h
    ·split at h
     ·cases hmr with
      |mp _ p hp=>obtain⟨arr,hheap,hrep⟩:=(hm.own s _ ho).Qgl hp;obtain⟨v,x,h1,h2,h3⟩:=Zjj htab hkr h hrep;exact Qz.same hm (h3 w t p.block _ (htab.get hte).und hheap) h2 h1
     ·exact Qut htab hm hmr hkr h
    ·exact h.elim
   ·exact h.elim
  ·exact Qut htab hm hmr hkr h
 ·exact Qut htab hm hmr hkr h
theorem Qnc{P:Program}{M:Qd}{U:Env}{H:List Qb}{w:World}{s:Nat}{ka va:Qe}{l l':List (ka.El×va.El)}{p:Place}{arr arr':Array MapEntry}(hm:Mem M U H w)(ho:H[s]? =some (.tmap ka va l))(hp:U s=some p)
  (hheap:w.heap[p.block]? = some (.map arr l.length)) (hr:Wm M U arr' (Xg ka va 0 l')):Mem M U (H.set s (.tmap ka va l')) { w with heap := w.heap.setIfInBounds p.block (.map arr' l'.length) } ∧
   Fr M U H w M U (H.set s (.tmap ka va l')) {w with heap:=w.heap.setIfInBounds p.block (.map arr' l'.length)} H.length [s] []:=by
 have hlt:p.block<w.heap.size:=(ZD.1 hheap).1;exact hm.put ho rfl hp (fun b hb=>Qu0 hb) (by simp) rfl ⟨p,arr',hp,by simp[hlt],hr.sz,hr.rep⟩
def Qpg(P:Program)(tab:Qp)(H:List Qb)(t:Nat)(m k x:SV):Qo:=
 match m with
 |.mp s=>match H[s]? with
  |some (.tmap ka va l)=>match tab.lookup t with
   |some {desc:=.map kt et,..}=>match tab.lookup kt with
    |none=>.fail
    |some ik=>match Qcr P tab kt ik.desc ka with
     |false=>.fail
     |true=>match ka.Qcy k with
      |none=>.fail
      |some kx=>match va.Qcy x with
       |none=>.fail
       |some y=>.eff .any (H.set s (.tmap ka va (Jf ka.eqv kx y l))) [s] []
   |_=>.fail
  |_=>Qov P tab H t m k x
 |_=>Qov P tab H t m k x
theorem Zlx{P:Program}{tab:Qp}(htab:Q6 P tab){M:Qd}{U:Env}{H:List Qb}{w:World}{K:Qv}(hm:Mem M U H w){t:Nat}{m k x:SV}{vm vk v:Value}(hmr:Qf M U vm m)(hkr:Qf M U vk k)(hx:Qf M U v x)
  (h:(Qpg P tab H t m k x).holds H K):Qcb P (ZW t vm vk v) M U H w K:=by
 unfold Qpg at h;split at h
 ·rename_i s;split at h
  ·rename_i ka va l ho;split at h
   ·rename_i kt et _ _ _ _ hte;have hu:P.underlying t=some (.map kt et):=(htab.get hte).und;split at h
    ·exact h.elim
    ·rename_i ik hik;split at h
     ·exact h.elim
     ·rename_i hd;split at h
      ·exact h.elim
      ·rename_i kx hkx;split at h
       ·exact h.elim
       ·rename_i y hy;have hvk:=Qqx (Qj9 hd) (Qe.Qen hkx hkr);subst hvk;have hdk:P.underlying kt=some ik.desc:=(htab.get hik).und;have hyr:=Qe.Qen hy hx;cases hmr with
        |mp _ p hp=>
         obtain⟨arr,hheap,hrep⟩:=Wk.rep (hm.own s _ ho) hp;have hget:=run_getObj_map (P:=P) hheap;cases hf:Xi ka.eqv kx l 0 with
         |none=>
          have hl':Jf ka.eqv kx y l=l++[(kx,y)]:=by unfold Jf;rw[hf]
          rw[hl']at h;obtain⟨g1,g2⟩:=Qnc (P:=P) hm ho hp hheap (l':=l++[(kx,y)]) (arr':=arr.push {key:=ka.Z5 kx,val:=v,born:=l.length}) (by have:=hrep.push (k:=ka.Z5 kx) (c:=l.length) hyr;rw[Zir];simpa using this);refine⟨_,?_,.any,_,[s],[],M,U,h,rfl,g1,g2⟩;simp[ZW,run_underlying hu,hget,Qjb htab hik hd,(Qe5 htab hik hd hrep kx w).1 hf,Qa4 hheap]
         |some q=>
          obtain⟨j,y0⟩:=q;obtain⟨e,a1,a2,a3,a4,a5,a6⟩:=(Qe5 htab hik hd hrep kx w).2 j y0 hf;have hl':Jf ka.eqv kx y l=l.set j (kx,y):=by unfold Jf;rw[hf]
          rw[hl']at h;obtain⟨g1,g2⟩:=Qnc (P:=P) hm ho hp hheap (l':=l.set j (kx,y)) (arr':=arr.modify j fun e=>{e with key:=ka.Z5 kx,val:=v}) (by have:=hrep.set (k:=ka.Z5 kx) a1 hyr a4 (fun e=>{e with key:=ka.Z5 kx,val:=v}) rfl;rw[Qw8];simpa using this);refine⟨_,?_,.any,_,[s],[],M,U,h,rfl,g1,g2⟩;have hks:(ZJ (((arr[j]?).map (·.key)).getD (ka.Z5 kx)) (ka.Z5 kx)).run P w=.ok (ka.Z5 kx) w:=by rw[a1];simp only[ZV,XG,a3];simp[ZJ,Zid (Qj9 hd)]
          simp[ZW,run_underlying hu,hget,Qjb htab hik hd,a6,hks,Qa4 hheap]
   ·exact h.elim
  ·exact Zej htab hm hmr hkr hx h
 ·exact Zej htab hm hmr hkr hx h
def Qm6{K V:Type}(eq:K->K->Bool)(k:K)(l:List (K×V))(z:V):List (K×V):=match Xi eq k l 0 with
 |some p=>l.set p.1 (k,p.2)
 |none=>l++[(k,z)]
def Qxb(P:Program)(tab:Qp)(H:List Qb)(t:Nat)(m k:SV):Qo:=
 match m with
 |.mp s=>match H[s]? with
  |some (.tmap ka va l)=>match tab.lookup t with
   |some {desc:=.map kt et,..}=>match tab.lookup kt with
    |none=>.fail
    |some ik=>match Qcr P tab kt ik.desc ka with
     |false=>.fail
     |true=>match tab.lookup et with
      |none=>.fail
      |some ie=>match ka.Qcy k with
       |none=>.fail
       |some kx=>match va.ofZ ie.zero with
        |none=>.fail
        |some z=>.eff (.tup [va.raw (Y6 ka.eqv kx l z),.lit (.int .i64 (Qk2 ka.eqv kx l))]) (H.set s (.tmap ka va (Qm6 ka.eqv kx l z))) [s] []
   |_=>.fail
  |_=>Qqz P tab H t m k
 |_=>Qqz P tab H t m k
theorem Ydw{P:Program}{tab:Qp}(htab:Q6 P tab){M:Qd}{U:Env}{H:List Qb}{w:World}{K:Qv}(hm:Mem M U H w){t:Nat}{m k:SV}{vm vk:Value}(hmr:Qf M U vm m)(hkr:Qf M U vk k)
  (h:(Qxb P tab H t m k).holds H K):Qz P (Q1 t vm vk) M U H w K:=by
 unfold Qxb at h;split at h
 ·rename_i s;split at h
  ·rename_i ka va l ho;split at h
   ·rename_i kt et _ _ _ _ hte;have hu:P.underlying t=some (.map kt et):=(htab.get hte).und;split at h
    ·exact h.elim
    ·rename_i ik hik;split at h
     ·exact h.elim
     ·rename_i hd;split at h
      ·exact h.elim
      ·rename_i ie hie;split at h
       ·exact h.elim
       ·rename_i kx hkx;split at h
        ·exact h.elim
        ·rename_i z hz;have hvk:=Qqx (Qj9 hd) (Qe.Qen hkx hkr);subst hvk;have hdk:P.underlying kt=some ik.desc:=(htab.get hik).und;have hzr:Qf M U ie.zero (va.raw z):=Qe.Qen (M:=M) (U:=U) hz (.pv (.lit _));cases hmr with
         |mp _ p hp=>
          obtain⟨arr,hheap,hrep⟩:=Wk.rep (hm.own s _ ho) hp;have hget:=run_getObj_map (P:=P) hheap;cases hf:Xi ka.eqv kx l 0 with
          |none=>
           have e1:Qm6 ka.eqv kx l z=l++[(kx,z)]:=by unfold Qm6;rw[hf]
           have e2:Y6 ka.eqv kx l z=z:=by unfold Y6;rw[hf]
           have e3:Qk2 ka.eqv kx l=l.length:=by unfold Qk2;rw[hf]
           rw[e1,e2,e3]at h;obtain⟨g1,g2⟩:=Qnc (P:=P) hm ho hp hheap (l':=l++[(kx,z)]) (arr':=arr.push {key:=ka.Z5 kx,val:=ie.zero,born:=l.length}) (by have:=hrep.push (k:=ka.Z5 kx) (c:=l.length) hzr;rw[Zir];simpa using this);refine⟨.tuple #[ie.zero,goInt l.length],_,?_,_,_,[s],[],M,U,h,Qqu hzr (.pv (.lit _)),g1,g2⟩;simp[Q1,run_underlying hu,hget,Qjb htab hik hd,(Qe5 htab hik hd hrep kx w).1 hf,Qa4 hheap,Qau (htab.get hie)]
          |some q=>
           obtain⟨j,y0⟩:=q;obtain⟨e,a1,a2,a3,a4,a5,a6⟩:=(Qe5 htab hik hd hrep kx w).2 j y0 hf;have e1:Qm6 ka.eqv kx l z=l.set j (kx,y0):=by unfold Qm6;rw[hf]
           have e2:Y6 ka.eqv kx l z=y0:=by unfold Y6;rw[hf]
           have e3:Qk2 ka.eqv kx l=j:=by unfold Qk2;rw[hf]
           rw[e1,e2,e3]at h;obtain⟨g1,g2⟩:=Qnc (P:=P) hm ho hp hheap (l':=l.set j (kx,y0)) (arr':=arr.modify j fun e=>{e with key:=ka.Z5 kx}) (by have:=hrep.set (k:=ka.Z5 kx) a1 a5 a4 (fun e=>{e with key:=ka.Z5 kx}) rfl;rw[Qw8];simpa using this);refine⟨.tuple #[e.val,goInt e.born],_,?_,_,_,[s],[],M,U,h,?_,g1,g2⟩
           ·have hks:(ZJ e.key (ka.Z5 kx)).run P w=.ok (ka.Z5 kx) w:=by rw[a3];simp[ZJ,Zid (Qj9 hd)]
            simp[Q1,run_underlying hu,hget,Qjb htab hik hd,a6,hks,Qa4 hheap,a1]
           ·rw[a4];exact Qqu a5 (.pv (.lit _))
   ·exact h.elim
  ·exact Zi0 htab hm hmr hkr h
 ·exact Zi0 htab hm hmr hkr h
def Qxh{K V:Type}(j:Nat)(x:V)(l:List (K×V)):List (K×V):=match l[j]? with
 |some e=>l.set j (e.1,x)
 |none=>l
def Qv4(H:List Qb)(m st x:SV):Qo:=
 match m with
 |.mp s=>match H[s]? with
  |some (.tmap ka va l)=>match st with
   |.pv (.lit (.int _ n))=>match va.Qcy x with
    |none=>.fail
    |some y=>.need (decide (0<=n)) (.need (decide (n.toNat<l.length)) (.eff .any (H.set s (.tmap ka va (Qxh n.toNat y l))) [s] []))
   |_=>.fail
  |_=>Qr2 H m st x
 |_=>Qr2 H m st x
theorem Yqb{P:Program}{M:Qd}{U:Env}{H:List Qb}{w:World}{K:Qv}(hm:Mem M U H w){t:Nat}{m st x:SV}{vm vs v:Value}(hmr:Qf M U vm m)(hst:Qf M U vs st)(hx:Qf M U v x)
  (h:(Qv4 H m st x).holds H K):Qcb P (QF t vm vs v) M U H w K:=by
 unfold Qv4 at h;split at h
 ·rename_i s;split at h
  ·rename_i ka va l ho;split at h
   ·rename_i k n;have:=hst.Zt;subst this;split at h
    ·exact h.elim
    ·rename_i y hy;obtain⟨h0,h1,h⟩:=h;have h0:=of_decide_eq_true h0;have h1:=of_decide_eq_true h1;have hyr:=Qe.Qen hy hx;obtain⟨j,rfl⟩:∃j:Nat,n=j:=⟨n.toNat,by omega⟩;simp only[Int.toNat_natCast]at h h1;cases hmr with
     |mp _ p hp=>
      obtain⟨arr,hheap,hrep⟩:=Wk.rep (hm.own s _ ho) hp;have hsz:=hrep.sz;rw[Qcl]at hsz;have hgete:∀(i:Nat) (hi:i<l.length),∃e,arr[i]? =some e∧e.key=ka.Z5 l[i].1∧e.born=i∧Qf M U e.val (va.raw l[i].2):=fun i hi=>by obtain⟨e,a1,a2,a3,a4⟩:=hrep.rep i (ka.Z5 l[i].1) (va.raw l[i].2) i (by rw[Vg,I hi];simp);exact⟨e,a1,a2,a3,a4⟩
      obtain⟨e,a1,a2,a3,a4⟩:=hgete j h1;have hidx:arr.findIdx? (fun e=>(e.born:Int)==(j:Int))=some j:=by
       rw[QA];refine⟨by omega,?_,fun i hi=>?_⟩
       ·rw[ZL (by omega)]at a1;simp only[ZG]at a1;rw[a1,a3];simp
       ·obtain⟨e',b1,_,b3,_⟩:=hgete i (by omega);rw[ZL (by omega)]at b1;simp only[ZG]at b1;rw[b1,b3];simp;omega
      have el:Qxh j y l=l.set j (l[j].1,y):=by unfold Qxh;rw[I h1]
      rw[el]at h;obtain⟨g1,g2⟩:=Qnc (P:=P) hm ho hp hheap (l':=l.set j (l[j].1,y)) (arr':=arr.modify j fun e=>{e with val:=v}) (by have:=hrep.set (k:=ka.Z5 l[j].1) a1 hyr a3 (fun e=>{e with val:=v}) (by rw[<-a2]);rw[Qw8];simpa using this);refine⟨_,?_,.any,_,[s],[],M,U,h,rfl,g1,g2⟩;simp[QF,run_getObj_map (P:=P) hheap,asInt,asIntOf,hidx,Qa4 hheap]
   ·exact h.elim
  ·exact Zcp hm hmr hst hx h
 ·exact Zcp hm hmr hst hx h
def Qb.Qjq:Qb->Option (List (Value×SV×Nat)×Nat)
 |.map es c=>some (es,c)
 |.tmap k v l=>some (Xg k v 0 l,l.length)
 |_=>none
theorem Qzq{M:Qd}{U:Env}{w:World}{s:Nat}{o:Qb}{q:List (Value×SV×Nat)×Nat}(h:o.Qjq=some q)(ho:Q9 M U w s o):Wk M U w s q.1 q.2:=by cases o<;>first|(cases h;done)|(cases h;exact ho)
def Qxn(tab:Qp)(H:List Qb)(t:Nat)(x:SV):Qo:=
 match tab.lookup t,x with
 |some {desc:=.string,..},.pv (.lit (.string s))=>.eff (.ptr H.length 0 0 0) (H++[.iter s 0]) [] []
 |some {desc:=.map _ _,..},.mp m=>match H[m]? with
  |some o=>match o.Qjq with
   |some q=>.eff (.ptr H.length 0 0 0) (H++[.mit (some m) q.2 []]) [] []
   |none=>.fail
  |none=>.fail
 |_,_=>.fail
theorem Zsz{P:Program}{tab:Qp}(htab:Q6 P tab){M:Qd}{U:Env}{H:List Qb}{w:World}{K:Qv}(hm:Mem M U H w){t:Nat}{x:SV}{v:Value}(hx:Qf M U v x)(h:(Qxn tab H t x).holds H K):Qz P (QO t v) M U H w K:=by
 unfold Qxn at h;split at h
 ·rename_i sz' by' zr rw' s hte;have hu:P.underlying t=some .string:=(htab.get hte).und;have:=hx.Zt;subst this;have hrun:(QO t (.string s)).run P w=.ok (.pointer (some ⟨w.heap.size,0,none⟩)) (w.alloc (.stringIter s 0)):=by simp[QO,run_underlying hu]
  obtain⟨g1,g2⟩:=hm.alloc (w':=w.alloc (.stringIter s 0)) (o:=.stringIter s 0) (so:=.iter s 0) (cap:=0) rfl ⟨_,Env.set_self ..,heap_alloc_new w _⟩;exact⟨_,_,hrun,_,_,[],[],M,_,h,.ptr _ _ _ _ _ _ (Env.set_self ..) (by simp),g1,g2⟩
 ·rename_i k e sz' by' zr rw' m hte;have hu:P.underlying t=some (.map k e):=(htab.get hte).und;split at h
  ·rename_i o ho;split at h
   ·rename_i q hq;obtain⟨es,c⟩:=q;obtain⟨pm,arr,h1,h2,h3,h4⟩:=Qzq hq (hm.own m _ ho);simp only at h2 h;cases hx with
    |mp _ p hp=>
     rw[hp]at h1;cases h1;have hget:(getObj pm.block).run P w=.ok (.map arr c) w:=by simp[getObj,QL,h2]
     have hrun:(QO t (.map (some pm.block))).run P w=.ok (.pointer (some ⟨w.heap.size,0,none⟩)) (w.alloc (.mapIter (some pm.block) c #[] c)):=by simp[QO,run_underlying hu,hget]
     have hne:m≠H.length:=fun e=>by have:=(ZO.1 ho).1;omega
     obtain⟨g1,g2⟩:=hm.alloc (w':=w.alloc (.mapIter (some pm.block) c #[] c)) (o:=.mapIter (some pm.block) c #[] c) (so:=.mit (some m) c []) (cap:=0) rfl
       ⟨_,_,_,Env.set_self ..,heap_alloc_new w _,rfl,fun mm e=>by cases e;exact⟨pm,by rw[Env.Xj _ _ hne];exact hp,rfl⟩⟩
     exact⟨_,_,hrun,_,_,[],[],M,_,h,.ptr _ _ _ _ _ _ (Env.set_self ..) (by simp),g1,g2⟩
   ·exact h.elim
  ·exact h.elim
 ·exact h.elim
def Qx9(H:List Qb)(x:SV):Qo:=
 match x with
 |.ptr s 0 0 0=>match H[s]? with
  | some (.iter b pos)=>.split (decide (pos < b.size))
    (.eff (.tup [.lit (.bool true),.lit (.int .i64 pos),.lit (.int .i32 (QP b pos).1)]) (H.set s (.iter b (pos+(QP b pos).2))) [s] [])
    (.ok (.tup [.lit (.bool false)]))
  |_=>.fail
 |_=>.fail
theorem Yf6{P:Program}{M:Qd}{U:Env}{H:List Qb}{w:World}{K:Qv}(hm:Mem M U H w){t:Nat}{x:SV}{v:Value}(hx:Qf M U v x)(h:(Qx9 H x).holds H K):Qz P (XE v true t) M U H w K:=by
 unfold Qx9 at h;split at h
 ·rename_i s;split at h
  ·rename_i b pos ho;cases hx with
   |ptr _ _ _ _ k p hp hk=>
    obtain⟨q,h1,h2⟩:=hm.own s _ ho;rw[hp]at h1;cases h1;have hk0:k=0:=by simpa using hk
    subst hk0;have hget:(getObj p.block).run P w=.ok (.stringIter b pos) w:=by simp[getObj,QL,h2]
    have hset:∀o,(setObj p.block o).run P w=.ok () {w with heap:=w.heap.setIfInBounds p.block o}:=fun o=>by simp[setObj,QL,h2]
    have hlt:p.block<w.heap.size:=(ZD.1 h2).1;obtain⟨ht,hf⟩:=h;by_cases hpos:pos<b.size
    ·have h':=ht (by simpa using hpos);obtain⟨g1,g2⟩:=hm.put (so:=.iter b (pos+(QP b pos).2)) (w':={w with heap:=w.heap.setIfInBounds p.block (.stringIter b (pos+(QP b pos).2))}) ho rfl hp (fun b' hb=>Qu0 hb) (by simp) rfl
      ⟨p,hp,by simp[hlt]⟩
     refine⟨.tuple #[.bool true,goInt pos,.int .i32 (QP b pos).1],_,?_,_,_,[s],[],M,U,h',?_,g1,g2⟩
     ·simp[XE,hget,hpos,hset]
     ·refine .tup _ _ rfl fun i a c ha hc=>?_;match i with
      |0=>simp at ha hc;subst ha;subst hc;exact .pv (.lit _)
      |1=>simp at ha hc;subst ha;subst hc;exact .pv (.lit _)
      |2=>simp at ha hc;subst ha;subst hc;exact .pv (.lit _)
      |i+3=>simp at hc
    ·have h':=hf (by simpa using hpos);refine Qz.same hm (v:=.tuple #[.bool false]) ?_ ?_ h'
     ·simp[XE,hget,hpos]
     ·refine .tup _ _ rfl fun i a c ha hc=>?_;match i with
      |0=>simp at ha hc;subst ha;subst hc;exact .pv (.lit _)
      |i+1=>simp at hc
  ·exact h.elim
 ·exact h.elim
def Qlo(s m c:Nat)(seen:List Nat)(H:List Qb):List (Value×SV×Nat)->Qo
 |[]=>.ok (.tup [.lit (.bool false)])
 |[e]=>.eff (.tup [.lit (.bool true),.lit e.1,e.2.1]) (H.set s (.mit (some m) c (seen++[e.2.2]))) [s] []
 |e::e'::es=>.both (.eff (.tup [.lit (.bool true),.lit e.1,e.2.1]) (H.set s (.mit (some m) c (seen++[e.2.2]))) [s] []) (Qlo s m c seen H (e'::es))
def Qr6(H:List Qb)(x:SV):Qo:=
 match x with
 |.ptr s 0 0 0=>match H[s]? with
  |some (.mit (some m) c seen)=>match H[m]? with
   |some o=>match o.Qjq with
    |some q=>.need (QJ q.2 c&&q.1.all fun e=>Nat.blt e.2.2 c) (Qlo s m c seen H (q.1.filter fun e=>!seen.contains e.2.2))
    |none=>.fail
   |none=>.fail
  |_=>.fail
 |_=>.fail
theorem Yic{s m c:Nat}{seen:List Nat}{H:List Qb}{K:Qv}{l:List (Value×SV×Nat)}(h:(Qlo s m c seen H l).holds H K)(hl:l=[]):K (.tup [.lit (.bool false)]) H [] []:=by subst hl;exact h
theorem Zfk{s m c:Nat}{seen:List Nat}{H:List Qb}{K:Qv}:∀{l:List (Value×SV×Nat)},(Qlo s m c seen H l).holds H K->∀e∈l,K (.tup [.lit (.bool true),.lit e.1,e.2.1]) (H.set s (.mit (some m) c (seen++[e.2.2]))) [s] []
 |[],h,e,he=>by cases he
 |[e0],h,e,he=>by rw[List.mem_singleton.1 he];exact h
 |e0::e1::l,h,e,he=>by
  rcases List.mem_cons.1 he with rfl|he
  ·exact h.1
  ·exact Zfk (l:=e1::l) h.2 e he
theorem Yja{P:Program}{M:Qd}{U:Env}{H:List Qb}{w:World}{K:Qv}(hm:Mem M U H w){t:Nat}{x:SV}{v:Value}(hx:Qf M U v x)(h:(Qr6 H x).holds H K):Qz P (XE v false t) M U H w K:=by
 unfold Qr6 at h;split at h
 ·rename_i s;split at h
  ·rename_i m c seen ho;split at h
   rotate_left
   ·exact h.elim
   rename_i om hom0;split at h
   ·rename_i qm hqm;obtain⟨es,c'⟩:=qm;have hom:=Qzq hqm (hm.own m _ hom0);obtain⟨hc,h⟩:=h;rw[C]at hc;simp only at hc h hom;have hcc:=ZA hc.1;subst hcc;have hbn:∀e∈es,e.2.2<c':=fun e he=>by have:=List.all_eq_true.1 hc.2 e he;rwa[Nat.blt_eq]at this
    cases hx with
    |ptr _ _ _ _ k p hp hk=>
     obtain⟨p',q,sn,h1,h2,h3,h4⟩:=hm.own s _ ho;rw[hp]at h1;cases h1;obtain⟨pm,a1,a2⟩:=h4 m rfl;subst a2;obtain⟨pm',arr,b1,b2,b3,b4⟩:=hom;rw[a1]at b1;cases b1;have hk0:k=0:=by simpa using hk
     subst hk0;have hent:∀(i:Nat) (me:MapEntry),arr[i]? =some me->∃e,es[i]? =some e∧me.key=e.1∧me.born=e.2.2∧Qf M U me.val e.2.1:=fun i me hme=>by
      have hi:i<es.length:=by rw[<-b3];exact(ZD.1 hme).1
      obtain⟨e,d1,d2,d3,d4⟩:=b4 i _ _ _ (I hi);rw[hme]at d1;cases d1;exact⟨_,I hi,d2,d3,d4⟩
     have hold:∀me∈arr.toList,me.born<c':=fun me hme=>by obtain⟨i,hi⟩:=QH hme;obtain⟨e,d1,_,d3,_⟩:=hent i me (by simpa using hi);rw[d3];exact hbn e (QY d1)
     have hleft:∀me,me∈(leftOf arr sn).toList↔me∈arr.toList∧¬me.born∈seen:=fun me=>by unfold leftOf;simp[<-h3]
     rcases run_next_at (P:=P) w t p.block pm.block c' c' sn arr c' h2 b2 hold (Nat.le_refl _)with⟨hz,hr⟩|⟨me,hme,w1,hw1,hr⟩
     ·have hnil:(es.filter fun e=>!seen.contains e.2.2)=[]:=by
       rw[List.filter_eq_nil_iff];intro e he;obtain⟨i,hi⟩:=QH he;obtain⟨me,d1,d2,d3,d4⟩:=b4 i e.1 e.2.1 e.2.2 hi;intro hn;have hmem:me∈(leftOf arr sn).toList:=(hleft me).2 ⟨by simpa using Array.mem_of_getElem? d1,by rw[d3];simpa using hn⟩;have:(leftOf arr sn).toList=[]:=by simpa using hz
       rw[this]at hmem;cases hmem
      have hk:=Yic h hnil;refine Qz.same hm hr ?_ hk;refine .tup _ _ rfl fun i a c ha hc=>?_;match i with
      |0=>simp at ha hc;subst ha;subst hc;exact .pv (.lit _)
      |i+1=>simp at hc
     ·obtain⟨m1,m2⟩:=(hleft me).1 hme;obtain⟨i,hi⟩:=QH m1;obtain⟨e,d1,d2,d3,d4⟩:=hent i me (by simpa using hi);have hein:e∈es.filter fun e=>!seen.contains e.2.2:=List.mem_filter.2 ⟨QY d1,by rw[<-d3];simpa using m2⟩;have hk:=Zfk h e hein;have hlt:p.block<w.heap.size:=(ZD.1 h2).1;have hh1:w1.heap=w.heap∧w1.os=w.os∧w1.output=w.output:=by rcases hw1 with rfl|rfl<;>exact⟨rfl,rfl,rfl⟩
      obtain⟨g1,g2⟩:=hm.put (so:=.mit (some m) c' (seen++[e.2.2])) (w':=ChangeMaps.setBlock w1 p.block (.mapIter (some pm.block) c' (sn.push me.born) c')) ho rfl hp
       (fun b' hb=>by show(w1.heap.setIfInBounds p.block _)[b']? =_;rw[hh1.1,Array.getElem?_setIfInBounds,if_neg fun e=>hb e.symm])
       (by show(w1.heap.setIfInBounds p.block _).size=_;rw[hh1.1];simp) rfl
       ⟨p,some pm.block,sn.push me.born,hp,by show(w1.heap.setIfInBounds p.block _)[p.block]? =_;rw[hh1.1];simp[hlt],by simp[h3,d3],fun mm e=>by cases e;exact⟨pm,a1,rfl⟩⟩
       ⟨hh1.2.1,hh1.2.2⟩
      refine⟨_,_,hr,_,_,[s],[],M,U,hk,?_,g1,g2⟩;refine .tup _ _ rfl fun i a c ha hc=>?_;match i with
      |0=>simp at ha hc;subst ha;subst hc;exact .pv (.lit _)
      |1=>simp at ha hc;subst ha;subst hc;rw[d2];exact .pv (.lit _)
      |2=>simp at ha hc;subst ha;subst hc;exact d4
      |i+3=>simp at hc
   ·exact h.elim
  ·exact h.elim
 ·exact h.elim
def Qes(H:List Qb)(x:SV):Qo:=
 match x with
 |.ptr s 0 0 0=>match H[s]? with
  |some (.mit (some m) c seen)=>match H[m]? with
   |some o=>match o.Qjq with
    |some q=>match seen.getLast? with
     |some st=>match q.1.find? fun e=>QJ e.2.2 st with
      |some e=>.need (QJ q.2 c) (.ok (.tup [.lit e.1,e.2.1]))
      |none=>.fail
     |none=>.fail
    |none=>.fail
   |none=>.fail
  |_=>.fail
 |_=>.fail
theorem Qnv{P:Program}{M:Qd}{U:Env}{H:List Qb}{w:World}{K:Qv}(hm:Mem M U H w){x:SV}{v:Value}(hx:Qf M U v x)(h:(Qes H x).holds H K):Qz P (XH v) M U H w K:=by
 unfold Qes at h;split at h
 rotate_left
 ·exact h.elim
 rename_i s;split at h
 rotate_left
 ·exact h.elim
 rename_i m c seen ho;split at h
 rotate_left
 ·exact h.elim
 rename_i om hom0;split at h
 rotate_left
 ·exact h.elim
 rename_i qm hqm;obtain⟨es,c'⟩:=qm;have hom:=Qzq hqm (hm.own m _ hom0);split at h
 rotate_left
 ·exact h.elim
 rename_i st hst;split at h
 rotate_left
 ·exact h.elim
 rename_i e he;obtain⟨hc,h⟩:=h;simp only at hc h hom he;have hcc:=ZA hc;subst hcc;cases hx with
 |ptr _ _ _ _ k p hp hk=>
  obtain⟨p',q,sn,h1,h2,h3,h4⟩:=hm.own s _ ho;rw[hp]at h1;cases h1;obtain⟨pm,a1,a2⟩:=h4 m rfl;subst a2;obtain⟨pm',arr,b1,b2,b3,b4⟩:=hom;rw[a1]at b1;cases b1;have hk0:k=0:=by simpa using hk
  subst hk0;obtain⟨hp1,i,hi,hei,hmin⟩:=ZQ.1 he;obtain⟨me,d1,d2,d3,d4⟩:=b4 i e.1 e.2.1 e.2.2 (by rw[I hi,hei]);have hst':e.2.2=st:=ZA hp1;have hf:arr.find? (fun x=>x.born==st)=some me:=by
   rw[<-Array.find?_toList];obtain⟨hia,hme⟩:=ZD.1 d1;refine ZQ.2 ⟨by rw[d3,hst'];simp,i,by simpa using hia,by simpa using hme,fun j hj=>?_⟩;have hj':j<es.length:=by omega
   obtain⟨mj,e1,e2,e3,e4⟩:=b4 j _ _ _ (I hj');have hja:j<arr.size:=by omega
   have e1':arr[j]=mj:=by rw[ZL hja]at e1;exact QI e1
   have hne:=hmin j hj;simp only[Array.getElem_toList,e1',e3];cases hb:QJ (es[j]).2.2 st with
   |true=>rw[hb]at hne;simp at hne
   |false=>
    have:(es[j]).2.2≠st:=fun hh=>by rw[hh,XF]at hb;cases hb
    simp[this]
  have hback:sn.back? =some st:=by rw[<-h3]at hst;rw[<-Array.getLast?_toList];exact hst
  refine Qz.same hm (v:=.tuple #[me.key,me.val]) ?_ ?_ h
  ·simp only[XH,getObj,ZE,QL,h2,b2,Result.andThen,hback,bne_self_eq_false,ZM,if_false,hf];rfl
  ·refine .tup _ _ rfl fun i a b ha hb=>?_;match i with
   |0=>simp at ha hb;subst ha;subst hb;rw[d2];exact .pv (.lit _)
   |1=>simp at ha hb;subst ha;subst hb;exact d4
   |i+2=>simp at hb
def Qe.Xn:(a:Qe)->a.El
 |.val t=>t.Xn
 |.agg row=>Qj.Xn row
def X2(l:List Nat):Nat:=l.getLastD 0
theorem Ybm{l:List Nat}(h:0<l.length):l.getLast? =some (X2 l):=by
 unfold X2;cases e:l.getLast? with
 |none=>rw[List.getLast?_eq_none_iff]at e;subst e;simp at h
 |some x=>rw[List.getLastD_eq_getLast?,e];rfl
theorem Zv6{k v:Qe}{l:List (k.El×v.El)}{j:Nat}(h:j<l.length):(Xg k v 0 l).find? (fun e=>QJ e.2.2 j)=some (k.Z5 l[j].1,v.raw l[j].2,j):=by
 rw[ZQ];have hg:∀i (hi:i<l.length),(Xg k v 0 l)[i]? =some (k.Z5 l[i].1,v.raw l[i].2,i):=fun i hi=>by rw[Vg,I hi];simp
 have hl:j<(Xg k v 0 l).length:=by rw[Qcl];exact h
 refine⟨XF j,j,hl,?_,fun i hi=>?_⟩
 ·have:=hg j h;rw[I hl]at this;exact QI this
 ·have hi':i<l.length:=by omega
  have:=hg i hi';have hil:i<(Xg k v 0 l).length:=by rw[Qcl];exact hi'
  rw[I hil]at this;rw[QI this];show(! QJ i j)=true;rw[Bool.not_eq_true'];cases he:QJ i j with
  |false=>rfl
  |true=>have:=ZA he;omega
def Qu2(H:List Qb)(x:SV):Qo:=
 match x with
 |.ptr s 0 0 0=>match H[s]? with
  |some (.mit (some m) c seen)=>match H[m]? with
   |some (.tmap k v l)=>match k.scalar with
    |true=>.need (decide (c=l.length)) <| .need (decide (0<seen.length)) <| .need (decide (X2 seen<l.length)) <| .ok (.tup [k.raw (l.getD (X2 seen) (k.Xn,v.Xn)).1,v.raw (l.getD (X2 seen) (k.Xn,v.Xn)).2])
    |false=>.fail
   |_=>Qes H x
  |_=>Qes H x
 |_=>Qes H x
theorem Yce{P:Program}{M:Qd}{U:Env}{H:List Qb}{w:World}{K:Qv}(hm:Mem M U H w){x:SV}{v:Value}(hx:Qf M U v x)(h:(Qu2 H x).holds H K):Qz P (XH v) M U H w K:=by
 unfold Qu2 at h;split at h
 ·rename_i s;split at h
  ·rename_i m c seen ho;split at h
   ·rename_i k va l hl;split at h
    ·rename_i hks;obtain⟨hc,hs,hlt,h⟩:=h;have hc:=of_decide_eq_true hc;have hs:=of_decide_eq_true hs;have hlt:=of_decide_eq_true hlt;rw[List.getD_eq_getElem?_getD,I hlt]at h;have h:K (.tup [k.raw l[X2 seen].1,va.raw l[X2 seen].2]) H [] []:=h;have h0:(Qes H (.ptr s 0 0 0)).holds H fun x' H' t g=>H'=H∧t=[]∧g=[]∧x'=.tup [.lit (k.Z5 l[X2 seen].1),va.raw l[X2 seen].2]:=by unfold Qes;simp only[ho,hl,Qb.Qjq,Ybm hs,Zv6 hlt];exact⟨by rw[hc];exact XF _,rfl,rfl,rfl,rfl⟩
     obtain⟨u,w',hr,y,H',t,g,M',U',⟨rfl,rfl,rfl,rfl⟩,hrep,hm',hf⟩:=Qnv (P:=P) hm hx h0;refine⟨u,w',hr,_,_,_,_,M',U',h,?_,hm',hf⟩;cases hrep with
     |tup cs _ hlen hrep=>
      refine .tup cs _ hlen fun i a b ha hb=>?_;match i with
      |0=>simp only[QB,ZG]at hb;subst hb;have:=(hrep 0 a _ ha rfl).Zt;subst this;exact Qvi hks _
      |1=>simp only[QU,QB,ZG]at hb;subst hb;exact hrep 1 a _ ha rfl
      |i+2=>simp at hb
    ·exact h.elim
   ·exact Qnv hm hx h
  ·exact Qnv hm hx h
 ·exact Qnv hm hx h
end Go.Sx
