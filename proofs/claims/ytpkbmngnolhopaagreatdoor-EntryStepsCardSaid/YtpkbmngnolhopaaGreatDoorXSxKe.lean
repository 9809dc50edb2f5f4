/- Part Ke of the own logic: equality of rows of cells; which data may be keys. Part I of the own logic: maps and ranges over strings. -/
import Derived.Test.YtpkbmngnolhopaaGreatDoorXSxH
import Derived.Orders
import Derived.IntWalk
import Derived.Maps.RangeRun
set_option linter.unusedVariables false
set_option linter.unusedSimpArgs false
open Bool renaming and_eq_true->C,false_eq_true->ZL,true_and->XB,true_eq_false->XD,and_true->XL
open List renaming getElem?_eq_getElem->I,getElem?_eq_some_iff->ZN,find?_eq_some_iff_getElem->ZP,forIn_cons->ZT,getElem?_eq_none->ZX,getElem?_map->ZY,all_cons->QA,getElem?_cons_zero->QC,getElem?_append->QH,getElem?_of_mem->QI,ext_getElem?->QN,getElem?_set->QO,map_cons->QR,range'_succ->QS,length_cons->QU,getElem?_cons_succ->QV,mem_of_getElem?->QZ,length_nil->XJ
open Go.Result renaming andThen_ok->J
open Go.Instr renaming findNow->R,sameBits->ZA,findKey->ZB,findAsking->ZE,sameNow->ZH,keyThatStays->ZI,checkKey->ZJ,lookup->ZM,mapUpdate->ZV,mapEntry->ZZ,entryStore->QG,range->QP,makeMap->XC,next->XF,entry->XI
open Nat renaming eq_of_beq_eq_true->U,add_zero->ZR,add_assoc->ZW,add_comm->QE,beq->QK,mul_one->QX,beq_refl->XG
open Array renaming getElem?_eq_some_iff->ZC,getElem?_toList->ZG,getElem?_eq_getElem->ZK,findIdx?_eq_some_iff_getElem->QB,getElem?_modify->QW,getElem?_push->XA,forIn_toList->XE,isEmpty->XM
open Go.Sem renaming run_bind->ZD,run_pure->QD,run->QM,run_map->QY,bind->XN
open Option.some renaming injEq->ZF,inj->QJ
open Option renaming bind_some->ZO,map_eq_some_iff->ZQ,map_some->ZU,getD_some->XH
open ForInStep renaming yield->ZS,done->XK
open PUnit renaming unit->QF
open Go.Op renaming equalIn->QL
open Go.Utf8 renaming decode->QQ
open Go renaming sizeOf->QT
namespace Go.Sx
open Go
theorem Qe6{P:Program}{t:TypeId}{i:TI}(h:X3 P t i)(w:World):(isAgg t).run P w=.ok i.desc.isRow w:=by unfold isAgg;rw[ZD,run_underlying h.und w];generalize i.desc=d;cases d<;>simp[TypeDesc.isRow]
def SV.cells?:SV->Option (List SV)
 |.agg l=>some l
 |.pv (.lit (.agg a))=>some (a.toList.map .lit)
 |_=>none
theorem Qjk{M:Qd}{Z:Env}{v:Value}{x:SV}{l:List SV}(h:x.cells? =some l)(hr:Qf M Z v x):
  ∃cs,v=.agg cs∧cs.size=l.length∧∀(i:Nat) (v:Value) (x:SV),cs[i]? =some v->l[i]? =some x->Qf M Z v x:=by
 unfold SV.cells? at h;split at h
 ·cases h;cases hr with
  |agg cs _ hl hr=>exact⟨cs,rfl,hl,hr⟩
 ·rename_i a;cases h;have:=hr.Zq;subst this;refine⟨a,rfl,by simp,fun i v x hv hx=>?_⟩;simp only[ZY,ZQ]at hx;obtain⟨z,hz,rfl⟩:=hx;rw[ZG,hv]at hz;cases hz;exact .pv (.lit _)
 ·cases h
def partOf(tab:Qr)(t:Nat)(l:List SV)(off:Nat):Option SV:=match tab.lookup t with
 |none=>none
 |some i=>match i.desc.isRow with
  |true=>match Nat.ble (off+i.size) l.length with
   |true=>some (.X2 ((l.drop off).take i.size))
   |false=>none
  |false=>l[off]?
theorem Qo4{P:Program}{tab:Qr}(htab:Q9 P tab){M:Qd}{Z:Env}(w:World){t off:Nat}{cs:Array Value}{l:List SV}{x:SV}(hl:cs.size=l.length)
  (hr:∀(i:Nat) (v:Value) (x:SV),cs[i]? =some v->l[i]? =some x->Qf M Z v x) (h:partOf tab t l off=some x):∃v,(part t cs off).run P w=.ok v w∧Qf M Z v x:=by
 unfold partOf at h;split at h
 ·cases h
 ·rename_i i hi;have ht:=htab.get hi;obtain⟨inf,hinf,i1,_⟩:=ht.inf;split at h
  ·rename_i hd;split at h
   ·rename_i hle;have hle:=Nat.le_of_ble_eq_true hle;cases h;refine⟨.agg (cs.extract off (off+i.size)),by simp[part,Qe6 ht,hd,sizeOf,typeInfo,hinf,i1],?_⟩;have:=Qf.X2 (M:=M) (Z:=Z) (cs:=(cs.extract off (off+i.size)).toList) (l:=(l.drop off).take i.size) (by simp;omega) (fun k v x hv hx=>by
     rw[List.getElem?_take]at hx;split at hx
     ·rename_i hk;rw[List.getElem?_drop]at hx;rw[ZG,Array.getElem?_extract]at hv;split at hv
      ·exact hr _ v x hv hx
      ·cases hv
     ·cases hx)
    rwa[Array.toArray_toList]at this
   ·cases h
  ·rename_i hd;have hlt:off<cs.size:=by have:=(ZN.1 h).1;omega
   exact⟨cs[off],by simp[part,Qe6 ht,hd,hlt],hr off _ _ (by simp[hlt]) h⟩
def Qel(d:TypeDesc)(x y:SV):Option Bool:=match d,x,y with
 |.bool,.pv (.lit (.bool a)),.pv (.lit (.bool b))=>some (a==b)
 |.int _,.pv (.lit (.int k a)),.pv (.lit (.int k' b))=>match decide (k=k')with
  |true=>some (decide (a=b))
  |false=>none
 |.string,.pv (.lit (.string a)),.pv (.lit (.string b))=>some (a==b)
 |_,_,_=>none
def Qa3(eq:Nat->SV->SV->Option Bool)(tab:Qr)(xs ys:List SV):List Field->Option Bool
 |[]=>some true
 |f::fs=>match decide (f.name= "_")with
  |true=>Qa3 eq tab xs ys fs
  |false=>match partOf tab f.type xs f.offset with
   |none=>none
   |some a=>match partOf tab f.type ys f.offset with
    |none=>none
    |some b=>match eq f.type a b with
     |none=>none
     |some r=>match Qa3 eq tab xs ys fs with
      |none=>none
      |some r'=>some (r&&r')
def Qby(eq:Nat->SV->SV->Option Bool)(tab:Qr)(xs ys:List SV)(e sz:Nat):Nat->Nat->Option Bool
 |_,0=>some true
 |i,k+1=>match partOf tab e xs (i*sz)with
  |none=>none
  |some a=>match partOf tab e ys (i*sz)with
   |none=>none
   |some b=>match eq e a b with
    |none=>none
    |some r=>match Qby eq tab xs ys e sz (i+1) k with
     |none=>none
     |some r'=>some (r&&r')
def eqV(P:Program)(tab:Qr):Nat->Nat->SV->SV->Option Bool
 |0,_,_,_=>none
 |n+1,t,x,y=>match tab.lookup t with
  |none=>none
  |some i=>match i.desc with
   |.struct fields=>match P.stoodInHeld t with
    |true=>none
    |false=>match x.cells? with
     |none=>none
     |some xs=>match y.cells? with
      |none=>none
      |some ys=>Qa3 (eqV P tab n) tab xs ys fields.toList
   |.array len e=>match tab.lookup e with
    |none=>none
    |some ie=>match x.cells? with
     |none=>none
     |some xs=>match y.cells? with
      |none=>none
      |some ys=>Qby (eqV P tab n) tab xs ys e ie.size 0 len
   |d=>Qel d x y
theorem Qt5{P:Program}{tab:Qr}(htab:Q9 P tab){M:Qd}{Z:Env}(w:World){eq:Nat->SV->SV->Option Bool}{E:Nat->Value->Value->Sem Bool}
  (hE:∀t x y vx vy b,eq t x y=some b->Qf M Z vx x->Qf M Z vy y->(E t vx vy).run P w=.ok b w)
  {cx cy:Array Value} {xs ys:List SV} (lx:cx.size=xs.length) (ly:cy.size=ys.length)
  (rx:∀(i:Nat) (v:Value) (x:SV),cx[i]? =some v->xs[i]? =some x->Qf M Z v x) (ry:∀(i:Nat) (v:Value) (x:SV),cy[i]? =some v->ys[i]? =some x->Qf M Z v x):
  ∀(fl:List Field) (b:Bool),Qa3 eq tab xs ys fl=some b->
  QM P (forIn fl ((none,()):Option Bool×Unit) fun f __s=>
      if f.name= "_" then pure (ZS (none,()))
      else do
       let a <-part f.type cx f.offset;let c <-part f.type cy f.offset;let r <-E f.type a c
       if r=false then pure (XK (some false,()))else pure (ZS (none,()))) w=.ok (if b then(none,())else(some false,())) w
 |[],b,h=>by simp[Qa3]at h;subst h;simp
 |f::fs,b,h=>by
  rw[ZT];simp only[Qa3]at h;split at h
  ·rename_i hn;have hn:=of_decide_eq_true hn;simp only[hn,if_true,ZD,QD,J];exact Qt5 htab w hE lx ly rx ry fs b h
  ·rename_i hn;have hn:=of_decide_eq_false hn;split at h
   ·cases h
   ·rename_i a ha;split at h
    ·cases h
    ·rename_i c hc;split at h
     ·cases h
     ·rename_i r hr;split at h
      ·cases h
      ·rename_i r' hr';cases h;obtain⟨va,p1,p2⟩:=Qo4 htab w lx rx ha;obtain⟨vc,p3,p4⟩:=Qo4 htab w ly ry hc;have p5:=hE _ _ _ _ _ _ hr p2 p4;have ih:=Qt5 htab w hE lx ly rx ry fs r' hr';simp only[hn,if_false,ZD,p1,p3,p5,J];cases r with
       |false=>simp
       |true=>simp only[XD,if_false,QD,J,XB];exact ih
theorem Zey{P:Program}{tab:Qr}(htab:Q9 P tab){M:Qd}{Z:Env}(w:World){eq:Nat->SV->SV->Option Bool}{E:Nat->Value->Value->Sem Bool}
  (hE:∀t x y vx vy b,eq t x y=some b->Qf M Z vx x->Qf M Z vy y->(E t vx vy).run P w=.ok b w)
  {cx cy:Array Value} {xs ys:List SV} (lx:cx.size=xs.length) (ly:cy.size=ys.length)
  (rx:∀(i:Nat) (v:Value) (x:SV),cx[i]? =some v->xs[i]? =some x->Qf M Z v x) (ry:∀(i:Nat) (v:Value) (x:SV),cy[i]? =some v->ys[i]? =some x->Qf M Z v x) {e sz:Nat}:
  ∀(k i:Nat) (b:Bool),Qby eq tab xs ys e sz i k=some b->
  QM P (forIn (List.range' i k) ((none,()):Option Bool×Unit) fun i __s=>do
       let a <-part e cx (i*sz);let c <-part e cy (i*sz);let r <-E e a c
       if r=false then pure (XK (some false,()))else pure (ZS (none,()))) w=.ok (if b then(none,())else(some false,())) w
 |0,i,b,h=>by simp[Qby]at h;subst h;simp
 |k+1,i,b,h=>by
  rw[QS,ZT];simp only[Qby]at h;split at h
  ·cases h
  ·rename_i a ha;split at h
   ·cases h
   ·rename_i c hc;split at h
    ·cases h
    ·rename_i r hr;split at h
     ·cases h
     ·rename_i r' hr';cases h;obtain⟨va,p1,p2⟩:=Qo4 htab w lx rx ha;obtain⟨vc,p3,p4⟩:=Qo4 htab w ly ry hc;have p5:=hE _ _ _ _ _ _ hr p2 p4;have ih:=Zey htab w hE lx ly rx ry k (i+1) r' hr';simp only[ZD,p1,p3,p5,J];cases r with
      |false=>simp
      |true=>simp only[XD,if_false,QD,J,XB];exact ih
theorem Qpn{P:Program}{tab:Qr}(htab:Q9 P tab){M:Qd}{Z:Env}(w:World):∀(n:Nat) (t:Nat) (x y:SV) (vx vy:Value) (b:Bool),eqV P tab n t x y=some b->Qf M Z vx x->Qf M Z vy y->
  ∀d,n<=d->(QL d t vx vy).run P w=.ok b w
 |0,t,x,y,vx,vy,b,h,hx,hy=>by simp[eqV]at h
 |n+1,t,x,y,vx,vy,b,h,hx,hy=>by
  intro d hd;obtain⟨d,rfl⟩:∃e,d=e+1:=⟨d-1,by omega⟩;unfold eqV at h;split at h
  ·cases h
  ·rename_i i hi;have ht:=htab.get hi;split at h
   ·rename_i fields hdesc;split at h
    ·cases h
    ·rename_i hst;split at h
     ·cases h
     ·rename_i xs hxs;split at h
      ·cases h
      ·rename_i ys hys;obtain⟨cx,rfl,lx,rx⟩:=Qjk hxs hx;obtain⟨cy,rfl,ly,ry⟩:=Qjk hys hy;have hu:P.underlying t=some (.struct fields):=by rw[ht.und,hdesc]
       unfold QL;simp only[ZD,run_underlying hu,J];simp[hst];rw[<-XE];generalize fields.toList=fl at h;rw[Qt5 htab w (fun t x y vx vy b h hx hy=>Qpn htab w n t x y vx vy b h hx hy d (by omega)) lx ly rx ry fl b h];cases b<;>simp
   ·rename_i len e hdesc;split at h
    ·cases h
    ·rename_i ie hie;split at h
     ·cases h
     ·rename_i xs hxs;split at h
      ·cases h
      ·rename_i ys hys;obtain⟨cx,rfl,lx,rx⟩:=Qjk hxs hx;obtain⟨cy,rfl,ly,ry⟩:=Qjk hys hy;have hu:P.underlying t=some (.array len e):=by rw[ht.und,hdesc]
       obtain⟨inf,hinf,i1,_⟩:=(htab.get hie).inf;have hsz:(QT e).run P w=.ok ie.size w:=by simp[QT,typeInfo,hinf,i1]
       unfold QL;simp only[ZD,run_underlying hu,J,hsz];simp;rw[Zey htab w (fun t x y vx vy b h hx hy=>Qpn htab w n t x y vx vy b h hx hy d (by omega)) lx ly rx ry len 0 b h];cases b<;>simp
   ·rename_i hns;unfold Qel at h;split at h
    ·rename_i hdesc;cases h;have ex:=hx.Zq;have ey:=hy.Zq;subst ex;subst ey;have hu:=ht.und;rw[hdesc]at hu;unfold QL;simp[ZD,run_underlying hu]
    ·rename_i hdesc;split at h
     ·rename_i hk;cases of_decide_eq_true hk;cases h;have ex:=hx.Zq;have ey:=hy.Zq;subst ex;subst ey;have hu:=ht.und;rw[hdesc]at hu;unfold QL;simp[ZD,run_underlying hu];rfl
     ·cases h
    ·rename_i hdesc;cases h;have ex:=hx.Zq;have ey:=hy.Zq;subst ex;subst ey;have hu:=ht.und;rw[hdesc]at hu;unfold QL;simp[ZD,run_underlying hu]
    ·cases h
def X7:TypeDesc->Qe->Bool
 |.int k,.val (.int k')=>decide (k=k')
 |.string,.val .str=>true
 |.bool,.val .bool=>true
 |_,_=>false
theorem Zb7{d:TypeDesc}{a:Qe}(h:X7 d a=true):a.scalar=true:=by unfold X7 at h;split at h<;>first|rfl|cases h
def Wv(tab:Qr):List Field->List Ty->Nat->Bool
 |[],[],_=>true
 |f::fs,t::ts,i=>match decide (f.name= "_")with
  |true=>false
  |false=>match QK f.offset i with
   |false=>false
   |true=>match tab.lookup f.type with
    |none=>false
    |some d=>X7 d.desc (.val t)&&Wv tab fs ts (i+1)
 |_,_,_=>false
def Uh(d:TypeDesc):List Ty->Bool
 |[]=>true
 |t::ts=>X7 d (.val t)&&Uh d ts
def Up(P:Program)(tab:Qr)(kt:Nat)(d:TypeDesc):Qe->Bool
 |.agg row=>match d with
  |.struct fs=>match P.stoodInHeld kt with
   |true=>false
   |false=>Wv tab fs.toList row 0
  |.array len e=>match tab.lookup e with
   |none=>false
   |some ie=>QK row.length len&&(QK ie.size 1&&Uh ie.desc row)
  |_=>false
 |_=>false
def Qbl(P:Program)(tab:Qr)(kt:Nat)(d:TypeDesc)(a:Qe):Bool:=match X7 d a with
 |true=>true
 |false=>Up P tab kt d a
theorem Qf6{d:TypeDesc}{t:Ty}(h:X7 d (.val t)=true):d.isRow=false∧t.scalar=true:=by refine⟨?_,Zb7 (a:=.val t) h⟩;unfold X7 at h;split at h<;>first|rfl|cases h
theorem Zsu{d:TypeDesc}:∀{t:Ty} (h:X7 d (.val t)=true) (x y:t.El),Qel d (.pv (t.pv x)) (.pv (t.pv y))=some (t.eqv x y)
 |.int b,h,x,y=>by
  cases d<;>first|(simp only[X7,ZL]at h;done)|skip
  rename_i a;have e:a=b:=by simpa[X7]using h
  subst e;have key:∀x y:Int,Qel (.int a) (.pv (.lit (.int a x))) (.pv (.lit (.int a y)))=some (Qag x y):=fun x y=>by simp[Qel,Qag]
  exact key x y
 |.str,h,x,y=>by
  cases d<;>first|(simp only[X7,ZL]at h;done)|skip
  have key:∀x y:ByteArray,Qel .string (.pv (.lit (.string x))) (.pv (.lit (.string y)))=some (Qc x y):=fun x y=>by simp only[Qel,Qm4]
  exact key x y
 |.bool,h,x,y=>by
  cases d<;>first|(simp only[X7,ZL]at h;done)|skip
  have key:∀x y:Bool,Qel .bool (.pv (.lit (.bool x))) (.pv (.lit (.bool y)))=some (Qfp x y):=by decide
  exact key x y
 |.seq _,h,x,y=>by cases d<;>simp only[X7,ZL]at h
theorem Qol{P:Program}{tab:Qr}{n ft:Nat}{i:TI}(hi:tab.lookup ft=some i){t:Ty}(h:X7 i.desc (.val t)=true)(x y:t.El):eqV P tab (n+1) ft (.pv (t.pv x)) (.pv (t.pv y))=some (t.eqv x y):=by
 have e:=Zsu h x y;unfold eqV;rw[hi];simp only;split
 ·rename_i hd;rw[hd]at h;exact absurd h (by cases t<;>simp[X7])
 ·rename_i hd;rw[hd]at h;exact absurd h (by cases t<;>simp[X7])
 ·exact e
theorem Qda{tab:Qr}{ft off:Nat}{i:TI}(hi:tab.lookup ft=some i){t:Ty}(h:X7 i.desc (.val t)=true){xs:List SV}{q:SV}(hq:xs[off]? =some q):partOf tab ft xs off=some q:=by unfold partOf;rw[hi];simp only[(Qf6 h).1,hq]
theorem Zje{P:Program}{tab:Qr}{n:Nat}{xs ys:List SV}:∀(fs:List Field) (ts:List Ty) (i:Nat) (x y:Ql ts),Wv tab fs ts i=true->
  (∀j q,(Zn ts x)[j]? =some q->xs[i+j]? =some (.pv q))->(∀j q,(Zn ts y)[j]? =some q->ys[i+j]? =some (.pv q))->
  Qa3 (eqV P tab (n+1)) tab xs ys fs=some (Ql.eqv ts x y)
 |[],[],i,x,y,h,hx,hy=>rfl
 |[],_::_,i,x,y,h,hx,hy=>by simp[Wv]at h
 |_::_,[],i,x,y,h,hx,hy=>by simp[Wv]at h
 |f::fs,[t],i,x,y,h,hx,hy=>by
  simp only[Wv]at h;split at h
  ·cases h
  ·rename_i hn;split at h
   ·cases h
   ·rename_i ho;have ho:=U ho;split at h
    ·cases h
    ·rename_i d hd;rw[C]at h;have h1:=Qda hd h.1 (hx 0 (t.pv x) rfl);have h2:=Qda hd h.1 (hy 0 (t.pv y) rfl);have h3:=Qol (P:=P) (n:=n) hd h.1 x y;have h4:Qa3 (eqV P tab (n+1)) tab xs ys fs=some true:=by
      cases fs with
      |nil=>rfl
      |cons _ _=>simp[Wv]at h
     simp only[Qa3,hn,ho,ZR]at h1 h2⊢;simp only[h1,h2,h3,h4,XL];rfl
 |f::fs,t::t'::ts,i,x,y,h,hx,hy=>by
  simp only[Wv]at h;split at h
  ·cases h
  ·rename_i hn;split at h
   ·cases h
   ·rename_i ho;have ho:=U ho;split at h
    ·cases h
    ·rename_i d hd;rw[C]at h;have h1:=Qda hd h.1 (hx 0 (t.pv x.1) rfl);have h2:=Qda hd h.1 (hy 0 (t.pv y.1) rfl);have h3:=Qol (P:=P) (n:=n) hd h.1 x.1 y.1;have h4:=Zje (P:=P) (n:=n) fs (t'::ts) (i+1) x.2 y.2 h.2 (fun j q hq=>by rw[ZW,QE 1 j];exact hx (j+1) q hq) (fun j q hq=>by rw[ZW,QE 1 j];exact hy (j+1) q hq);simp only[Qa3,hn,ho,ZR]at h1 h2⊢;simp only[h1,h2,h3,h4];show some (t.eqv x.1 y.1&&Ql.eqv (t'::ts) x.2 y.2)=some (Vi t.eqv (Ql.eqv (t'::ts)) x y);unfold Vi;cases t.eqv x.1 y.1<;>rfl
theorem Zla{P:Program}{tab:Qr}{n e:Nat}{ie:TI}(he:tab.lookup e=some ie){xs ys:List SV}:∀(ts:List Ty) (i:Nat) (x y:Ql ts),Uh ie.desc ts=true->
  (∀j q,(Zn ts x)[j]? =some q->xs[i+j]? =some (.pv q))->(∀j q,(Zn ts y)[j]? =some q->ys[i+j]? =some (.pv q))->
  Qby (eqV P tab (n+1)) tab xs ys e 1 i ts.length=some (Ql.eqv ts x y)
 |[],i,x,y,h,hx,hy=>rfl
 |[t],i,x,y,h,hx,hy=>by simp only[Uh,C]at h;have h1:=Qda he h.1 (hx 0 (t.pv x) rfl);have h2:=Qda he h.1 (hy 0 (t.pv y) rfl);have h3:=Qol (P:=P) (n:=n) he h.1 x y;simp only[ZR]at h1 h2;simp only[QU,XJ,Qby,QX,h1,h2,h3,XL];rfl
 |t::t'::ts,i,x,y,h,hx,hy=>by simp only[Uh,C]at h;have h1:=Qda he h.1 (hx 0 (t.pv x.1) rfl);have h2:=Qda he h.1 (hy 0 (t.pv y.1) rfl);have h3:=Qol (P:=P) (n:=n) he h.1 x.1 y.1;have h4:=Zla (P:=P) (n:=n) he (t'::ts) (i+1) x.2 y.2 (by simp only[Uh,C];exact h.2) (fun j q hq=>by rw[ZW,QE 1 j];exact hx (j+1) q hq) (fun j q hq=>by rw[ZW,QE 1 j];exact hy (j+1) q hq);simp only[ZR]at h1 h2;show Qby (eqV P tab (n+1)) tab xs ys e 1 i ((t'::ts).length+1)=_;simp only[Qby,QX,h1,h2,h3,h4];show some (t.eqv x.1 y.1&&Ql.eqv (t'::ts) x.2 y.2)=some (Vi t.eqv (Ql.eqv (t'::ts)) x y);unfold Vi;cases t.eqv x.1 y.1<;>rfl
theorem Qww{P:Program}{tab:Qr}{kt:Nat}{d:TypeDesc}{a:Qe}(h:Up P tab kt d a=true):a.scalar=true:=by
 have key1:∀(fs:List Field) (ts:List Ty) (i:Nat),Wv tab fs ts i=true->ts.all Ty.scalar=true:=by
  intro fs;induction fs with
  |nil=>intro ts i h;cases ts<;>first|rfl|(simp[Wv]at h)
  |cons f fs ih=>
   intro ts i h;cases ts with
   |nil=>rfl
   |cons t ts=>
    simp only[Wv]at h;split at h
    ·cases h
    ·split at h
     ·cases h
     ·split at h
      ·cases h
      ·rw[C]at h;rw[QA,C];exact⟨(Qf6 h.1).2,ih _ _ h.2⟩
 have key2:∀(d:TypeDesc) (ts:List Ty),Uh d ts=true->ts.all Ty.scalar=true:=by
  intro d ts;induction ts with
  |nil=>intro _;rfl
  |cons t ts ih=>intro h;simp only[Uh,C]at h;rw[QA,C];exact⟨(Qf6 h.1).2,ih h.2⟩
 unfold Up at h;split at h
 ·split at h
  ·split at h
   ·cases h
   ·exact key1 _ _ _ h
  ·split at h
   ·cases h
   ·simp only[C]at h;exact key2 _ _ h.2.2
  ·cases h
 ·cases h
theorem Qmk{P:Program}{tab:Qr}{kt:Nat}{d:TypeDesc}{a:Qe}(h:Qbl P tab kt d a=true):a.scalar=true:=by
 unfold Qbl at h;split at h
 ·rename_i e;exact Zb7 e
 ·exact Qww h
theorem Yho{P:Program}{tab:Qr}{kt:Nat}{d:TypeDesc}{a:Qe}{i:TI}(hi:tab.lookup kt=some i)(h:Up P tab kt i.desc a=true)(x y:a.El):eqV P tab 2 kt (a.raw x) (a.raw y)=some (a.eqv x y):=by
 unfold Up at h;split at h
 ·rename_i row;split at h
  ·rename_i fs hd;split at h
   ·cases h
   ·rename_i hs;simp only[eqV,hi,hd,hs,Qe.raw,SV.cells?];exact Zje (P:=P) (n:=0) fs.toList row 0 x y h (fun j q hq=>by simp[hq]) (fun j q hq=>by simp[hq])
  ·rename_i len e hd;split at h
   ·cases h
   ·rename_i ie hie;simp only[C]at h;have e1:=U h.1;have e2:=U h.2.1;simp only[eqV,hi,hd,hie,Qe.raw,SV.cells?,e2,<-e1];exact Zla (P:=P) (n:=0) hie row 0 x y h.2.2 (fun j q hq=>by simp[hq]) (fun j q hq=>by simp[hq])
  ·cases h
 ·cases h
theorem Qr3{P:Program}{tab:Qr}(htab:Q9 P tab){ft off:Nat}{i:TI}(hi:tab.lookup ft=some i)(hd:i.desc.isRow=false){cs:Array Value}{v:Value}(hv:cs[off]? =some v)(w:World):(part ft cs off).run P w=.ok v w:=by have ht:=htab.get hi;obtain⟨h1,h2⟩:=ZC.1 hv;simp[part,Qe6 ht,hd,h1,h2]
theorem Qm7{P:Program}{tab:Qr}(htab:Q9 P tab){ft:Nat}{i:TI}(hi:tab.lookup ft=some i){t:Ty}(h:X7 i.desc (.val t)=true)(x:t.El)(e:Bool)(n:Nat)(w:World):
  (ZJ e (n+1) ft (t.toV x)).run P w=.ok () w:=by
 unfold ZJ;simp only[ZD,run_underlying (htab.get hi).und,J];generalize i.desc=d at h;cases t<;>cases d<;>first|(simp only[X7,ZL]at h;done)|rfl
theorem Zhs{P:Program}{tab:Qr}(htab:Q9 P tab){cs:Array Value}{e:Bool}{n:Nat}(w:World):∀(fs:List Field) (ts:List Ty) (i:Nat) (x:Ql ts),Wv tab fs ts i=true->(∀j v,(Vm ts x)[j]? =some v->cs[i+j]? =some v)->
  QM P (forIn fs QF fun f __s=>if f.name= "_" then pure (ZS QF)else do
     let v <-part f.type cs f.offset
     (fun a=>ZS QF)<$>ZJ e (n+1) f.type v) w=.ok QF w
 |[],[],i,x,h,hx=>by simp
 |[],_::_,i,x,h,hx=>by simp[Wv]at h
 |_::_,[],i,x,h,hx=>by simp[Wv]at h
 |f::fs,[t],i,x,h,hx=>by
  simp only[Wv]at h;split at h
  ·cases h
  ·rename_i hn;have hn:=of_decide_eq_false hn;split at h
   ·cases h
   ·rename_i ho;have ho:=U ho;split at h
    ·cases h
    ·rename_i d hd;rw[C]at h;have h1:=Qr3 htab hd (Qf6 h.1).1 (hx 0 (t.toV x) rfl) w;rw[ZR,<-ho]at h1;have h4:fs=[]:=by
      cases fs with
      |nil=>rfl
      |cons _ _=>simp[Wv]at h
     subst h4;rw[ZT];simp only[hn,if_false,ZD,h1,J,QY,Qm7 htab hd h.1 x e n w];simp
 |f::fs,t::t'::ts,i,x,h,hx=>by
  simp only[Wv]at h;split at h
  ·cases h
  ·rename_i hn;have hn:=of_decide_eq_false hn;split at h
   ·cases h
   ·rename_i ho;have ho:=U ho;split at h
    ·cases h
    ·rename_i d hd;rw[C]at h;have h1:=Qr3 htab hd (Qf6 h.1).1 (hx 0 (t.toV x.1) rfl) w;rw[ZR,<-ho]at h1;have h4:=Zhs htab (cs:=cs) (e:=e) (n:=n) w fs (t'::ts) (i+1) x.2 h.2 (fun j q hq=>by rw[ZW,QE 1 j];exact hx (j+1) q hq);rw[ZT];simp only[hn,if_false,ZD,h1,J,QY,Qm7 htab hd h.1 x.1 e n w];simpa using h4
theorem Zec{P:Program}{tab:Qr}(htab:Q9 P tab){cs:Array Value}{e:Bool}{n el:Nat}{ie:TI}(he:tab.lookup el=some ie)(hz:ie.size=1)(w:World):∀(ts:List Ty) (i:Nat) (x:Ql ts),Uh ie.desc ts=true->(∀j v,(Vm ts x)[j]? =some v->cs[i+j]? =some v)->
  QM P (forIn (List.range' i ts.length) QF fun i __s=>do
    let z <-sizeOf el;let v <-part el cs (i*z)
    (fun a=>ZS QF)<$>ZJ e (n+1) el v) w=.ok QF w
 |[],i,x,h,hx=>by simp
 |[t],i,x,h,hx=>by
  simp only[Uh,C]at h;obtain⟨inf,hinf,i1,_⟩:=(htab.get he).inf;have hsz:(QT el).run P w=.ok 1 w:=by simp[QT,typeInfo,hinf,i1,hz]
  have h1:=Qr3 htab he (Qf6 h.1).1 (hx 0 (t.toV x) rfl) w;rw[ZR]at h1;simp only[QU,XJ,QS,List.range'_zero,ZT,ZD,hsz,QX,h1,J,QY,Qm7 htab he h.1 x e n w];simp
 |t::t'::ts,i,x,h,hx=>by
  simp only[Uh,C]at h;obtain⟨inf,hinf,i1,_⟩:=(htab.get he).inf;have hsz:(QT el).run P w=.ok 1 w:=by simp[QT,typeInfo,hinf,i1,hz]
  have h1:=Qr3 htab he (Qf6 h.1).1 (hx 0 (t.toV x.1) rfl) w;rw[ZR]at h1;have h4:=Zec htab (cs:=cs) (e:=e) (n:=n) he hz w (t'::ts) (i+1) x.2 (by simp only[Uh,C];exact h.2) (fun j q hq=>by rw[ZW,QE 1 j];exact hx (j+1) q hq);rw[QU,QS,ZT];simp only[ZD,hsz,QX,h1,J,QY,Qm7 htab he h.1 x.1 e n w];simpa using h4
theorem Zmx{P:Program}{tab:Qr}(htab:Q9 P tab){kt:Nat}{i:TI}(hi:tab.lookup kt=some i){a:Qe}(h:Up P tab kt i.desc a=true)(x:a.El)(e:Bool)(w:World):(ZJ e 10000 kt (a.Z2 x)).run P w=.ok () w:=by
 unfold Up at h;split at h
 ·rename_i row;split at h
  ·rename_i fs hd;split at h
   ·cases h
   ·have hu:=(htab.get hi).und;rw[hd]at hu;unfold ZJ;simp only[ZD,run_underlying hu,J];dsimp only[Qe.Z2];simp;rw[<-XE];exact Zhs htab w fs.toList row 0 x h (fun j v hv=>by simpa using hv)
  ·rename_i len el hd;split at h
   ·cases h
   ·rename_i ie hie;simp only[C]at h;have e1:=U h.1;have e2:=U h.2.1;have hu:=(htab.get hi).und;rw[hd]at hu;unfold ZJ;simp only[ZD,run_underlying hu,J];dsimp only[Qe.Z2];simp;rw[<-e1];exact Zec htab hie e2 w row 0 x h.2.2 (fun j v hv=>by simpa using hv)
  ·cases h
 ·cases h
theorem Qiq{P:Program}{tab:Qr}(htab:Q9 P tab){kt:Nat}{i:TI}(hi:tab.lookup kt=some i){a:Qe}(h:Qbl P tab kt i.desc a=true)(x:a.El)(e:Bool)(w:World):(ZJ e 10000 kt (a.Z2 x)).run P w=.ok () w:=by
 unfold Qbl at h;split at h
 ·rename_i hd;cases a with
  |val t=>exact Qm7 htab hi hd x e 9999 w
  |agg row=>exact absurd hd (by generalize i.desc=d;cases d<;>simp[X7])
 ·exact Zmx htab hi h x e w
theorem Zva:∀(ts:List Ty) (x:Ql ts),ts.all Ty.scalar=true->((Vm ts x).zip (Vm ts x)).all (fun p=>ZA 9999 p.1 p.2)=true:=by
 have cell:∀(t:Ty) (x:t.El),t.scalar=true->ZA 9999 (t.toV x) (t.toV x)=true:=by
  intro t x h;cases t with
  |int k=>
   have key:∀a:Int,ZA 9999 (.int k a) (.int k a)=true:=fun a=>by simp[ZA]
   exact key x
  |str=>
   have key:∀a:ByteArray,ZA 9999 (.string a) (.string a)=true:=fun a=>by simp only[ZA,Qm4,Qc,decide_true]
   exact key x
  |bool=>
   have key:∀a:Bool,ZA 9999 (.bool a) (.bool a)=true:=fun a=>by simp[ZA]
   exact key x
  |seq r=>cases h
 intro ts;induction ts with
 |nil=>intro x h;rfl
 |cons t ts ih=>
  intro x h;rw[QA,C]at h;cases ts with
  |nil=>show(((t.toV x,t.toV x)::[]).all _)=true;simp[cell t x h.1]
  |cons t' ts=>have:=ih x.2 h.2;show(((t.toV x.1,t.toV x.1)::((Vm (t'::ts) x.2).zip (Vm (t'::ts) x.2))).all _)=true;rw[QA,cell t x.1 h.1,this];rfl
theorem Zb3{a:Qe}(hs:a.scalar=true)(x:a.El):ZA 10000 (a.Z2 x) (a.Z2 x)=true:=by
 cases a with
 |val t=>
  cases t with
  |int k=>
   have key:∀a:Int,ZA 10000 (.int k a) (.int k a)=true:=fun a=>by simp[ZA]
   exact key x
  |str=>
   have key:∀a:ByteArray,ZA 10000 (.string a) (.string a)=true:=fun a=>by simp only[ZA,Qm4,Qc,decide_true]
   exact key x
  |bool=>
   have key:∀a:Bool,ZA 10000 (.bool a) (.bool a)=true:=fun a=>by simp[ZA]
   exact key x
  |seq r=>cases hs
 |agg row=>have h:=Zva row x hs;show ZA (9999+1) (.agg (Vm row x).toArray) (.agg (Vm row x).toArray)=true;simp only[ZA,beq_self_eq_true,XB];exact h
theorem Qhs{α β:Type}(P:Program)(x:Sem α)(f:α->Sem β):Xd P (x>>=f)=(Xd P x).bind fun a=>Xd P (f a):=by
 show Xd P (x.bind f)=_;induction x with
 |pure a=>rfl
 |program k ih=>simp only[XN,Xd];exact ih P
 |mark m k ih=>simp only[XN,Xd];exact ih
 |_=>simp[XN,Xd]
theorem Qbf{α:Type}(P:Program)(a:α):Xd P (pure a:Sem α)=some a:=rfl
theorem Zjz(kind:TypeDesc)(k:Value):∀(l1 l2:List MapEntry) (i:Nat) (r:Option (Nat×Value)),l1.map (·.key)=l2.map (·.key)->R kind k l1 i=some r->
  (r=none∧R kind k l2 i=some none)∨∃(j:Nat) (v:Value) (e:MapEntry),r=some (i+j,v)∧l2[j]? =some e∧R kind k l2 i=some (some (i+j,e.val))
 |[],[],i,r,_,h=>by simp[R]at h;subst h;exact .inl ⟨rfl,rfl⟩
 |[],_::_,_,_,hk,_=>by simp at hk
 |_::_,[],_,_,hk,_=>by simp at hk
 |a::l1,b::l2,i,r,hk,h=>by
  simp only[QR,List.cons.injEq]at hk;obtain⟨hk0,hk⟩:=hk;simp only[R,hk0]at h⊢;split at h
  ·rename_i hs;cases h;exact .inr ⟨0,a.val,b,rfl,rfl,by simp[hs]⟩
  ·rename_i hs;rcases Zjz kind k l1 l2 (i+1) r hk h with⟨h1,h2⟩|⟨j,v,e,h1,h2,h3⟩
   ·exact .inl ⟨h1,by simp[hs,h2]⟩
   ·exact .inr ⟨j+1,v,e,by rw[h1];congr 2;omega,by simpa using h2,by simp[hs,h3];omega⟩
  ·cases h
theorem Zf0(kind:TypeDesc)(k:Value):∀(l1 l2:List MapEntry) (i:Nat),l1.map (·.key)=l2.map (·.key)->R kind k l1 i=none->R kind k l2 i=none
 |[],[],i,_,h=>by simp[R]at h
 |[],_::_,_,hk,_=>by simp at hk
 |_::_,[],_,hk,_=>by simp at hk
 |a::l1,b::l2,i,hk,h=>by
  simp only[QR,List.cons.injEq]at hk;obtain⟨hk0,hk⟩:=hk;simp only[R,hk0]at h⊢;split at h
  ·cases h
  ·rename_i hs;simp[hs,Zf0 kind k l1 l2 (i+1) hk h]
  ·rename_i hs;simp[hs]
theorem Zez(P:Program)(t:TypeId)(k:Value):∀(l1 l2:List MapEntry) (i:Nat) (r:Option (Nat×Value)),l1.map (·.key)=l2.map (·.key)->Xd P (ZE t k l1 i)=some r->
  (r=none∧Xd P (ZE t k l2 i)=some none)∨∃(j:Nat) (v:Value) (e:MapEntry),r=some (i+j,v)∧l2[j]? =some e∧Xd P (ZE t k l2 i)=some (some (i+j,e.val))
 |[],[],i,r,_,h=>by simp[ZE,Qbf]at h;subst h;exact .inl ⟨rfl,rfl⟩
 |[],_::_,_,_,hk,_=>by simp at hk
 |_::_,[],_,_,hk,_=>by simp at hk
 |a::l1,b::l2,i,r,hk,h=>by
  simp only[QR,List.cons.injEq]at hk;obtain⟨hk0,hk⟩:=hk;simp only[ZE,Qhs,hk0]at h⊢;cases hb:Xd P (Op.equal t k b.key)with
  |none=>simp[hb]at h
  |some c=>
   simp only[hb,ZO]at h⊢;cases c with
   |true=>simp[Qbf]at h;subst h;exact .inr ⟨0,a.val,b,rfl,rfl,by simp[Qbf]⟩
   |false=>
    simp only[ZL,if_false]at h⊢;rcases Zez P t k l1 l2 (i+1) r hk h with⟨h1,h2⟩|⟨j,v,e,h1,h2,h3⟩
    ·exact .inl ⟨h1,h2⟩
    ·exact .inr ⟨j+1,v,e,by rw[h1];congr 2;omega,by simpa using h2,by rw[h3];congr 3;omega⟩
theorem Yco(P:Program)(t:TypeId)(k:Value){l1 l2:List MapEntry}{r:Option (Nat×Value)}(hk:l1.map (·.key)=l2.map (·.key))(h:Xd P (ZB t k l1)=some r):
  (r=none∧Xd P (ZB t k l2)=some none)∨∃(j:Nat) (v:Value) (e:MapEntry),r=some (j,v)∧l2[j]? =some e∧Xd P (ZB t k l2)=some (some (j,e.val)):=by
 simp only[ZB,Qhs]at h⊢;cases hu:Xd P (underlying t)with
 |none=>simp[hu]at h
 |some d=>
  simp only[hu,ZO]at h⊢;cases hf:R d k l1 0 with
  |some q=>
   simp only[hf,Qbf,ZF]at h;subst h;rcases Zjz d k l1 l2 0 q hk hf with⟨h1,h2⟩|⟨j,v,e,h1,h2,h3⟩
   ·exact .inl ⟨h1,by simp[h2,Qbf]⟩
   ·exact .inr ⟨j,v,e,by simpa using h1,h2,by simp[h3,Qbf]⟩
  |none=>
   simp only[hf]at h;rw[Zf0 d k l1 l2 0 hk hf];simp only;rcases Zez P t k l1 l2 0 r hk h with⟨h1,h2⟩|⟨j,v,e,h1,h2,h3⟩
   ·exact .inl ⟨h1,h2⟩
   ·exact .inr ⟨j,v,e,by simpa using h1,h2,by simpa using h3⟩
abbrev Zo:=Value×SV×Nat
def Ki(es:List Zo):List MapEntry:=es.map fun e=>{key:=e.1,val:=.bool false,born:=e.2.2}
def Qam(P:Program)(kt:TypeId)(k:Value)(es:List Zo):Option (Option Nat):=
 match Xd P (ZB kt k (Ki es))with
 |none=>none
 |some none=>some none
 |some (some (j,_))=>some (some j)
structure Ws (M:Qd) (Z:Env) (arr:Array MapEntry) (es:List Zo):Prop where
 sz:arr.size=es.length
 rep:∀(i:Nat) (k:Value) (x:SV) (b:Nat),es[i]? =some (k,x,b)->∃e:MapEntry,arr[i]? =some e∧e.key=k∧e.born=b∧Qf M Z e.val x
theorem Ws.keys{M:Qd}{Z:Env}{arr:Array MapEntry}{es:List Zo}(h:Ws M Z arr es):(Ki es).map (·.key)=arr.toList.map (·.key):=by
 apply QN;intro i;simp only[Ki,List.map_map,ZY];by_cases hi:i<es.length
 ·obtain⟨e,h1,h2,_⟩:=h.rep i es[i].1 es[i].2.1 es[i].2.2 (by simp[hi]);rw[<-ZG]at h1;simp[hi,h1,h2]
 ·rw[ZX (by omega),ZX (by simp;rw[h.sz];omega)];rfl
theorem Qa9{P:Program}{M:Qd}{Z:Env}{arr:Array MapEntry}{es:List Zo}{kt:TypeId}{k:Value}(h:Ws M Z arr es)(w:World):
  (Qam P kt k es=some none->(ZB kt k arr.toList).run P w=.ok none w)∧
  (∀j,Qam P kt k es=some (some j)->∃(e:MapEntry) (x:Zo),arr[j]? =some e∧es[j]? =some x∧e.key=x.1∧e.born=x.2.2∧Qf M Z e.val x.2.1∧(ZB kt k arr.toList).run P w=.ok (some (j,e.val)) w):=by
 unfold Qam;cases hf:Xd P (ZB kt k (Ki es))with
 |none=>exact⟨fun h=>by simp at h,fun j h=>by simp at h⟩
 |some r=>
  rcases Yco P kt k h.keys hf with⟨rfl,h2⟩|⟨j,v,e,rfl,h2,h3⟩
  ·exact⟨fun _=>Qf4 h2 w,fun j h=>by simp at h⟩
  ·refine⟨fun h=>by simp at h,fun j' hj=>?_⟩;simp at hj;subst hj;rw[ZG]at h2;have hlt:j<es.length:=by have:=(ZC.1 h2).1;rw[h.sz]at this;exact this
   obtain⟨e',a1,a2,a3,a4⟩:=h.rep j es[j].1 es[j].2.1 es[j].2.2 (by simp[hlt]);rw[h2]at a1;cases a1;exact⟨e,es[j],h2,by simp[hlt],a2,a3,a4,Qf4 h3 w⟩
def Qf0(P:Program)(empty:Bool)(kt:TypeId)(k:Value):Bool:=(Xd P (ZJ empty 10000 kt k)).isSome
theorem Qdl{P:Program}{empty:Bool}{kt:TypeId}{k:Value}(h:Qf0 P empty kt k=true)(w:World):(ZJ empty 10000 kt k).run P w=.ok () w:=by unfold Qf0 at h;obtain⟨u,hu⟩:=Option.isSome_iff_exists.1 h;exact Qf4 hu w
theorem Q6.Qhb{M:Qd}{Z:Env}{w:World}{s:Nat}{es:List Zo}{c:Nat}{p:Place}(h:Q6 M Z w s (.map es c))(hp:Z s=some p):∃arr,w.heap[p.block]? =some (.map arr c)∧Ws M Z arr es:=by obtain⟨q,arr,h1,h2,h3,h4⟩:=h;rw[hp]at h1;cases h1;exact⟨arr,h2,h3,h4⟩
def valOf(t:Ty):SV->Option t.El
 |.pv p=>t.of p
 |_=>none
def Qzn(row:List Ty):SV->Option (Ql row)
 |.pv (.lit (.agg cs))=>ofRow row (cs.toList.map .lit)
 |.agg l=>match Qaa l with
  |some ps=>ofRow row ps
  |none=>none
 |_=>none
def Qe.Qcv:(a:Qe)->SV->Option a.El
 |.val t=>valOf t
 |.agg row=>Qzn row
theorem Qe.Qeo{M:Qd}{Z:Env}{a:Qe}{x:SV}{v:Value}{y:a.El}(h:a.Qcv x=some y)(hx:Qf M Z v x):Qf M Z v (a.raw y):=by
 cases a with
 |val t=>
  have h:valOf t x=some y:=h;unfold valOf at h;split at h
  ·cases hx with
   |pv hp=>exact .pv (Ty.Qz1 h hp)
  ·cases h
 |agg row=>
  replace h:Qzn row x=some y:=h;have fin:∀(cs:Array Value) (l:List PV),ofRow row l=some y->cs.size=l.length->(∀(i:Nat) (u:Value) (q:PV),cs[i]? =some u->l[i]? =some q->Zu M u q)->Qf M Z (.agg cs) ((Qe.agg row).raw y):=fun cs l hy hl hr=>by obtain⟨g1,g2⟩:=Qf3 hy;refine .agg cs _ (by simp[hl,g1]) fun i u z hu hz=>?_;simp only[ZY,ZQ]at hz;obtain⟨q,hq,rfl⟩:=hz;obtain⟨p,hp,himp⟩:=g2 i q hq;exact .pv (himp M u (hr i u p hu hp))
  unfold Qzn at h;split at h
  ·rename_i cs;have:=hx.Zq;subst this;refine fin cs _ h (by simp) fun i u q hu hq=>?_;simp only[ZY,ZQ,ZG]at hq;obtain⟨q',hq',rfl⟩:=hq;rw[hu]at hq';cases hq';exact .lit _
  ·split at h
   ·rename_i l ps hps;have e:=Qdt hps;subst e;cases hx with
    |agg cs _ hl hr=>
     refine fin cs ps h (by simpa using hl) fun i u q hu hq=>?_;have:=hr i u (.pv q) hu (by simp[hq]);cases this with
     |pv h=>exact h
   ·cases h
  ·cases h
theorem Ty.Yry{M:Qd}{v:Value}:∀{t:Ty} {x:t.El},t.scalar=true->Zu M v (t.pv x)->v=t.toV x
 |.int _,_,_,h=>by cases h;rfl
 |.bool,_,_,h=>by cases h;rfl
 |.str,_,_,h=>by cases h;rfl
theorem Qus:∀(ts:List Ty) (x:Ql ts),ts.all Ty.scalar=true->Zn ts x=(Vm ts x).map .lit
 |[],_,_=>rfl
 |[t],x,h=>by cases t<;>first|rfl|(simp[Ty.scalar]at h)
 |t::t'::ts,x,h=>by simp only[QA,C]at h;have:=Qus (t'::ts) x.2 (by simp only[QA,C];exact h.2);simp only[Zn,Vm,QR,this];cases t<;>first|rfl|(simp[Ty.scalar]at h)
theorem Qps{M:Qd}{Z:Env}{a:Qe}{x:a.El}{v:Value}(hs:a.scalar=true)(h:Qf M Z v (a.raw x)):v=a.Z2 x:=by
 cases a with
 |val t=>
  cases h with
  |pv h=>exact Ty.Yry hs h
 |agg row=>
  have e:=Qus row x hs;simp only[Qe.raw,e]at h;cases h with
  |agg cs _ hl hr=>
   show _=Value.agg (Vm row x).toArray;congr 1;apply Array.ext
   ·simpa using hl
   ·intro i h1 h2;have:=hr i cs[i] (.lit ((Vm row x).toArray[i])) (by simp[h1]) (by simp at h2;simp[h2]);rw[this.Zq]
def Xg{K V:Type}(eq:K->K->Bool)(k:K):List (K×V)->Nat->Option (Nat×V)
 |[],_=>none
 |e::l,i=>match eq k e.1 with
  |true=>some (i,e.2)
  |false=>Xg eq k l (i+1)
theorem Ky{k v:Qe}:∀(l:List (k.El×v.El)) (n i:Nat),(Xb k v n l)[i]? =(l[i]?).map fun x=>(k.Z2 x.1,v.raw x.2,n+i)
 |[],n,i=>by simp[Xb]
 |x::l,n,i=>by
  cases i with
  |zero=>simp[Xb]
  |succ i=>simp only[Xb,QV,Ky l (n+1) i];congr 1;funext x;rw[Nat.add_right_comm,ZW]
theorem Qt6{k v:Qe}(l:List (k.El×v.El))(n j:Nat)(x:k.El×v.El):Xb k v n (l.set j x)=(Xb k v n l).set j (k.Z2 x.1,v.raw x.2,n+j):=by
 apply QN;intro i;rw[Ky,QO,QO,Qb8,Ky];split
 ·rename_i e;subst e;split<;>rfl
 ·rfl
theorem Zbs{k v:Qe}(l:List (k.El×v.El))(n:Nat)(x:k.El×v.El):Xb k v n (l++[x])=Xb k v n l++[(k.Z2 x.1,v.raw x.2,n+l.length)]:=by
 apply QN;intro i;rw[Ky,QH,QH,Qb8,Ky];split
 ·rfl
 ·rename_i h;by_cases e:i-l.length=0
  ·have:i=l.length:=by omega
   subst this;simp
  ·obtain⟨m,hm⟩:=Nat.exists_eq_succ_of_ne_zero e;rw[hm];simp
theorem Zk3{d:TypeDesc}{k v:Qe}(hd:X7 d k=true)(x:k.El):∀(l:List (k.El×v.El)) (n i:Nat),
  ∃r,R d (k.Z2 x) (Ki (Xb k v n l)) i=some r∧r.map (·.1)=(Xg k.eqv x l i).map (·.1)
 |[],n,i=>⟨none,rfl,rfl⟩
 |y::l,n,i=>by
  obtain⟨r,h1,h2⟩:=Zk3 hd x l (n+1) (i+1);have hs:ZH d (k.Z2 x) (k.Z2 y.1)=some (k.eqv x y.1):=by
   unfold X7 at hd;split at hd
   ·rename_i a b;show ZH (.int _) (.int b x) (.int b y.1)=some (Qag x y.1);simp only[ZH,if_true];rfl
   ·show ZH .string (.string x) (.string y.1)=some (Qc x y.1);have key:∀a b:ByteArray,ZH .string (.string a) (.string b)=some (Qc a b):=fun a b=>by simp only[ZH,Qm4]
    exact key x y.1
   ·show ZH .bool (.bool x) (.bool y.1)=some (Qfp x y.1);have key:∀a b:Bool,ZH .bool (.bool a) (.bool b)=some (Qfp a b):=by decide
    exact key x y.1
   ·cases hd
  show∃r,R d (k.Z2 x) ({key:=k.Z2 y.1,val:=.bool false,born:=n}::Ki (Xb k v (n+1) l)) i=some r∧_;simp only[R,hs,Xg];cases k.eqv x y.1 with
  |true=>exact⟨_,rfl,rfl⟩
  |false=>exact⟨r,h1,h2⟩
theorem Yjb{P:Program}{kt:TypeId}{d:TypeDesc}(hu:P.underlying kt=some d){k v:Qe}(hd:X7 d k=true)(x:k.El)(l:List (k.El×v.El)):
  Qam P kt (k.Z2 x) (Xb k v 0 l)=some ((Xg k.eqv x l 0).map (·.1)):=by
 obtain⟨r,h1,h2⟩:=Zk3 hd x l 0 0;have:Xd P (ZB kt (k.Z2 x) (Ki (Xb k v 0 l)))=some r:=by
  unfold ZB;rw[Qhs];have:Xd P (underlying kt)=some d:=by unfold underlying;rw[Qhs];show(some P).bind _=_;simp only[ZO,hu,Qbf]
  rw[this];simp only[ZO,h1,Qbf]
 unfold Qam;rw[this];cases r with
 |none=>simp only[Option.map_none]at h2;rw[<-h2]
 |some p=>simp only[ZU]at h2;rw[<-h2]
theorem Quc{K V:Type}{eq:K->K->Bool}{k:K}:∀{l:List (K×V)} {n j:Nat} {v:V},Xg eq k l n=some (j,v)->∃i e,j=n+i∧l[i]? =some e∧e.2=v∧eq k e.1=true
 |[],n,j,v,h=>by cases h
 |e::l,n,j,v,h=>by
  simp only[Xg]at h;split at h
  ·rename_i he;cases h;exact⟨0,e,rfl,rfl,rfl,he⟩
  ·obtain⟨i,e',h1,h2,h3,h4⟩:=Quc h;exact⟨i+1,e',by omega,by simpa using h2,h3,h4⟩
def Qe.ofZ:(a:Qe)->Value->Option a.El
 |a,z=>a.Qcv (.lit z)
def X5{K V:Type}(eq:K->K->Bool)(k:K)(l:List (K×V))(z:V):V:=match Xg eq k l 0 with
 |some p=>p.2
 |none=>z
def Qe3{K V:Type}(eq:K->K->Bool)(k:K)(l:List (K×V)):Bool:=(Xg eq k l 0).isSome
def Ke{K V:Type}(eq:K->K->Bool)(k:K)(x:V)(l:List (K×V)):List (K×V):=match Xg eq k l 0 with
 |some p=>l.set p.1 (k,x)
 |none=>l++[(k,x)]
def Qlg{K V:Type}(eq:K->K->Bool)(k:K)(l:List (K×V)):Nat:=match Xg eq k l 0 with
 |some p=>p.1
 |none=>l.length
theorem Wz.rep{M:Qd}{Z:Env}{w:World}{s:Nat}{es:List Zo}{c:Nat}{p:Place}(h:Wz M Z w s es c)(hp:Z s=some p):∃arr,w.heap[p.block]? =some (.map arr c)∧Ws M Z arr es:=by obtain⟨q,arr,h1,h2,h3,h4⟩:=h;rw[hp]at h1;cases h1;exact⟨arr,h2,h3,h4⟩
def Zdx(H:List Qb):Qp:=.eff (.mp H.length) (H++[.map [] 0]) [] []
theorem Yey{P:Program}{M:Qd}{Z:Env}{H:List Qb}{w:World}{K:Qy}(hm:Mem M Z H w){t:TypeId}(h:(Zdx H).holds H K):Q1 P (XC t none) M Z H w K:=by
 have hrun:(XC t none).run P w=.ok (.map (some w.heap.size)) (w.alloc (.map #[] 0)):=by simp[XC]
 obtain⟨g1,g2⟩:=hm.alloc (w':=w.alloc (.map #[] 0)) (o:=.map #[] 0) (so:=.map [] 0) (cap:=0) rfl
  ⟨_,#[],Env.set_self ..,heap_alloc_new w _,rfl,fun i k x b hi=>by simp at hi⟩
 exact⟨_,_,hrun,_,_,[],[],M,_,h,.mp _ _ (Env.set_self ..),g1,g2⟩
def Qgu(P:Program)(tab:Qr)(H:List Qb)(t:Nat)(m k:SV)(ok:Bool):Qp:=
 match tab.lookup t with
 |some {desc:=.map kt et,..}=>match k with
  |.pv (.lit kv)=>match m with
   |.mp s=>match H[s]? with
    | some (.map es c)=>if Qf0 P es.isEmpty kt kv then match Qam P kt kv es with
      |some (some j)=>match es[j]? with
       |some e=>.ok (if ok then .tup [e.2.1,.lit (.bool true)]else e.2.1)
       |none=>.fail
      |some none=>match tab.lookup et with
       |some i=>.ok (if ok then .tup [.lit i.zero,.lit (.bool false)]else .lit i.zero)
       |none=>.fail
      |none=>.fail
     else .fail
    |_=>.fail
   |.pv (.lit (.map none))=>if Qf0 P true kt kv then match tab.lookup et,tab.lookup kt with
     |some i,some _=>.ok (if ok then .tup [.lit i.zero,.lit (.bool false)]else .lit i.zero)
     |_,_=>.fail
    else .fail
   |_=>.fail
  |_=>.fail
 |_=>.fail
theorem Qa0{M:Qd}{Z:Env}{v:Value}{x:SV}{b ok:Bool}(h:Qf M Z v x):Qf M Z (if ok then .tuple #[v,.bool b]else v) (if ok then .tup [x,.lit (.bool b)]else x):=by
 cases ok with
 |false=>simpa using h
 |true=>
  simp only[if_true];refine .tup _ _ rfl fun i u y hu hy=>?_;match i with
  |0=>simp at hu hy;subst hu;subst hy;exact h
  |1=>simp at hu hy;subst hu;subst hy;exact .pv (.lit _)
  |i+2=>simp at hy
theorem Qa4{P:Program}{t:TypeId}{i:TI}(h:X3 P t i)(w:World):(zeroValue t).run P w=.ok i.zero w:=by obtain⟨n,hn,_,_,h3⟩:=h.inf;simp[zeroValue,typeInfo,hn,h3]
theorem Qve{P:Program}{tab:Qr}(htab:Q9 P tab){M:Qd}{Z:Env}{H:List Qb}{w:World}{K:Qy}(hm:Mem M Z H w){t:Nat}{m k:SV}{vm vk:Value}{ok:Bool}(hmr:Qf M Z vm m)(hkr:Qf M Z vk k)
  (h:(Qgu P tab H t m k ok).holds H K):Q1 P (ZM t vm vk ok) M Z H w K:=by
 unfold Qgu at h;split at h
 ·rename_i kt et sz' by' zr rw' hte;have hu:P.underlying t=some (.map kt et):=(htab.get hte).und;split at h
  ·rename_i kv;have:=hkr.Zq;subst this;split at h
   ·rename_i s;split at h
    ·rename_i es c ho;split at h
     ·rename_i hko;cases hmr with
      |mp _ p hp=>
       obtain⟨arr,hheap,hrep⟩:=(hm.own s _ ho).Qhb hp;have hempty:arr.isEmpty=es.isEmpty:=by have:=hrep.sz;simp only[XM,this];cases es<;>simp
       obtain⟨f1,f2⟩:=Qa9 (P:=P) (kt:=kt) (k:=vk) hrep w;have hget:=run_getObj_map (P:=P) hheap;have hkey:=Qdl hko w;rw[<-hempty]at hkey;split at h
       ·rename_i j hj;obtain⟨e,x,a1,a2,a3,a4,a5,a6⟩:=f2 j hj;rw[a2]at h;simp only at h;refine Q1.same hm ?_ (Qa0 (ok:=ok) (b:=true) a5) h;simp[ZM,run_underlying hu,hget,hkey,a6]
       ·rename_i hj;split at h
        ·rename_i i hi;refine Q1.same hm ?_ (Qa0 (ok:=ok) (b:=false) (.pv (.lit _))) h;simp[ZM,run_underlying hu,hget,hkey,f1 hj,Qa4 (htab.get hi)]
        ·exact h.elim
       ·exact h.elim
     ·exact h.elim
    ·exact h.elim
   ·split at h
    ·rename_i hko;have:=hmr.Zq;subst this;have hkey:=Qdl hko w;split at h
     ·rename_i i ik hi hik;have hnone:(ZB kt vk []).run P w=.ok none w:=by simp only[ZB,R,ZD,run_underlying (htab.get hik).und,J,QD]
      refine Q1.same hm ?_ (Qa0 (ok:=ok) (b:=false) (.pv (.lit _))) h;simp[ZM,run_underlying hu,hkey,hnone,Qa4 (htab.get hi)]
     ·exact h.elim
    ·exact h.elim
   ·exact h.elim
  ·exact h.elim
 ·exact h.elim
def Qs6(P:Program)(tab:Qr)(H:List Qb)(t:Nat)(m k x:SV):Qp:=
 match tab.lookup t,m,k with
 |some {desc:=.map kt et,..},.mp s,.pv (.lit kv)=>match H[s]? with
  | some (.map es c)=>if Qf0 P false kt kv then match Qam P kt kv es with
    |some (some j)=>match es[j]? with
     |some e=>if ZA 10000 e.1 kv then .eff .any (H.set s (.map (es.set j (kv,x,e.2.2)) c)) [s] []else .fail
     |none=>.fail
    |some none=>.eff .any (H.set s (.map (es++[(kv,x,c)]) (c+1))) [s] []
    |none=>.fail
   else .fail
  |_=>.fail
 |_,_,_=>.fail
theorem Qa8{P:Program}{w:World}{b:Nat}{es:Array MapEntry}{c:Nat}(h:w.heap[b]? =some (.map es c))(o:Obj):(setObj b o).run P w=.ok () {w with heap:=w.heap.setIfInBounds b o}:=by simp[setObj,QM,h]
theorem Qyj{w:World}{b k:Nat}{o:Obj}(h:k≠b):(w.heap.setIfInBounds b o)[k]? =w.heap[k]? :=Array.getElem?_setIfInBounds_ne (Ne.symm h)
theorem Ws.set{M:Qd}{Z:Env}{arr:Array MapEntry}{es:List Zo}{j:Nat}{e:MapEntry}{k:Value}{v:Value}{x:SV}{b:Nat}(h:Ws M Z arr es)(hj:arr[j]? =some e)(hx:Qf M Z v x)(hb:e.born=b)
  (f:MapEntry->MapEntry) (hf:f e={e with key:=k,val:=v}):Ws M Z (arr.modify j f) (es.set j (k,x,b)):=by
 refine⟨by simp[h.sz],fun i k' x' b' hi=>?_⟩;have hlt:j<arr.size:=(ZC.1 hj).1;rw[QO]at hi;split at hi
 ·rename_i e';subst e';rw[if_pos (by rw[<-h.sz];exact hlt)]at hi;cases hi;refine⟨{e with key:=k,val:=v},?_,rfl,hb,hx⟩;rw[QW];simp[hj,hf]
 ·rename_i e';obtain⟨q,a1,a2⟩:=h.rep i k' x' b' hi;exact⟨q,by rw[QW,if_neg e'];exact a1,a2⟩
theorem Ws.push{M:Qd}{Z:Env}{arr:Array MapEntry}{es:List Zo}{k v:Value}{x:SV}{c:Nat}(h:Ws M Z arr es)(hx:Qf M Z v x):Ws M Z (arr.push {key:=k,val:=v,born:=c}) (es++[(k,x,c)]):=by
 refine⟨by simp[h.sz],fun i k' x' b' hi=>?_⟩;rw[QH]at hi;split at hi
 ·rename_i hlt;obtain⟨q,a1,a2⟩:=h.rep i k' x' b' hi;exact⟨q,by rw[XA];rw[if_neg (by rw[h.sz];omega)];exact a1,a2⟩
 ·rename_i hlt;have e:i=es.length:=by
   by_cases e:i=es.length
   ·exact e
   ·rw[ZX (by simp;omega)]at hi;cases hi
  subst e;simp at hi;obtain⟨rfl,rfl,rfl⟩:=hi;exact⟨_,by rw[XA,if_pos h.sz.symm],rfl,rfl,hx⟩
theorem Qj4{P:Program}{M:Qd}{Z:Env}{H:List Qb}{w:World}{K:Qy}(hm:Mem M Z H w){s:Nat}{es es':List Zo}{c c':Nat}{p:Place}{arr arr':Array MapEntry}(ho:H[s]? =some (.map es c))(hp:Z s=some p)
  (hheap:w.heap[p.block]? =some (.map arr c)) (hr:Ws M Z arr' es'):Mem M Z (H.set s (.map es' c')) {w with heap:=w.heap.setIfInBounds p.block (.map arr' c')}∧Fr M Z H w M Z (H.set s (.map es' c')) {w with heap:=w.heap.setIfInBounds p.block (.map arr' c')} H.length [s] []:=by
 have hlt:p.block<w.heap.size:=(ZC.1 hheap).1;exact hm.put ho rfl hp (fun b hb=>Qyj hb) (by simp) rfl ⟨p,arr',hp,by simp[hlt],hr.sz,hr.rep⟩
theorem Zco{P:Program}{tab:Qr}(htab:Q9 P tab){M:Qd}{Z:Env}{H:List Qb}{w:World}{K:Qy}(hm:Mem M Z H w){t:Nat}{m k x:SV}{vm vk v:Value}(hmr:Qf M Z vm m)(hkr:Qf M Z vk k)(hx:Qf M Z v x)
  (h:(Qs6 P tab H t m k x).holds H K):Qcm P (ZV t vm vk v) M Z H w K:=by
 unfold Qs6 at h;split at h
 ·rename_i kt et sz' by' zr rw' s kv hte;have hu:P.underlying t=some (.map kt et):=(htab.get hte).und;have:=hkr.Zq;subst this;split at h
  ·rename_i es c ho;split at h
   ·rename_i hko;cases hmr with
    |mp _ p hp=>
     obtain⟨arr,hheap,hrep⟩:=(hm.own s _ ho).Qhb hp;obtain⟨f1,f2⟩:=Qa9 (P:=P) (kt:=kt) (k:=vk) hrep w;have hget:=run_getObj_map (P:=P) hheap;have hkey:=Qdl hko w;split at h
     ·rename_i j hj;obtain⟨e,x',a1,a2,a3,a4,a5,a6⟩:=f2 j hj;rw[a2]at h;simp only at h;split at h
      ·rename_i hsb;have hks:(ZI (((arr[j]?).map (·.key)).getD vk) vk).run P w=.ok vk w:=by rw[a1];simp only[ZU,XH,a3];simp[ZI,hsb]
       obtain⟨g1,g2⟩:=Qj4 (P:=P) (K:=K) (c':=c) hm ho hp hheap (hrep.set a1 hx a4 (fun e=>{e with key:=vk,val:=v}) rfl);refine⟨_,?_,.any,_,[s],[],M,Z,h,rfl,g1,g2⟩;simp[ZV,run_underlying hu,hget,hkey,a6,hks,Qa8 hheap]
      ·exact h.elim
     ·rename_i hj;obtain⟨g1,g2⟩:=Qj4 (P:=P) (K:=K) (c':=c+1) hm ho hp hheap (hrep.push (k:=vk) (c:=c) hx);refine⟨_,?_,.any,_,[s],[],M,Z,h,rfl,g1,g2⟩;simp[ZV,run_underlying hu,hget,hkey,f1 hj,Qa8 hheap]
     ·exact h.elim
   ·exact h.elim
  ·exact h.elim
 ·exact h.elim
def Qrg(P:Program)(tab:Qr)(H:List Qb)(t:Nat)(m k:SV):Qp:=
 match tab.lookup t,m,k with
 |some {desc:=.map kt et,..},.mp s,.pv (.lit kv)=>match H[s]? with
  | some (.map es c)=>if Qf0 P false kt kv then match Qam P kt kv es with
    |some (some j)=>match es[j]? with
     |some e=>if ZA 10000 e.1 kv then .eff (.tup [e.2.1,.lit (.int .i64 e.2.2)]) (H.set s (.map (es.set j (kv,e.2.1,e.2.2)) c)) [s] []else .fail
     |none=>.fail
    |some none=>match tab.lookup et with
     |some i=>.eff (.tup [.lit i.zero,.lit (.int .i64 c)]) (H.set s (.map (es++[(kv,.lit i.zero,c)]) (c+1))) [s] []
     |none=>.fail
    |none=>.fail
   else .fail
  |_=>.fail
 |_,_,_=>.fail
theorem Qqn{M:Qd}{Z:Env}{v u:Value}{x y:SV}(h:Qf M Z v x)(k:Qf M Z u y):Qf M Z (.tuple #[v,u]) (.tup [x,y]):=by
 refine .tup _ _ rfl fun i a b ha hb=>?_;match i with
 |0=>simp at ha hb;subst ha;subst hb;exact h
 |1=>simp at ha hb;subst ha;subst hb;exact k
 |i+2=>simp at hb
theorem Zj9{P:Program}{tab:Qr}(htab:Q9 P tab){M:Qd}{Z:Env}{H:List Qb}{w:World}{K:Qy}(hm:Mem M Z H w){t:Nat}{m k:SV}{vm vk:Value}(hmr:Qf M Z vm m)(hkr:Qf M Z vk k)
  (h:(Qrg P tab H t m k).holds H K):Q1 P (ZZ t vm vk) M Z H w K:=by
 unfold Qrg at h;split at h
 ·rename_i kt et sz' by' zr rw' s kv hte;have hu:P.underlying t=some (.map kt et):=(htab.get hte).und;have:=hkr.Zq;subst this;split at h
  ·rename_i es c ho;split at h
   ·rename_i hko;cases hmr with
    |mp _ p hp=>
     obtain⟨arr,hheap,hrep⟩:=(hm.own s _ ho).Qhb hp;obtain⟨f1,f2⟩:=Qa9 (P:=P) (kt:=kt) (k:=vk) hrep w;have hget:=run_getObj_map (P:=P) hheap;have hkey:=Qdl hko w;split at h
     ·rename_i j hj;obtain⟨e,x',a1,a2,a3,a4,a5,a6⟩:=f2 j hj;rw[a2]at h;simp only at h;split at h
      ·rename_i hsb;have hks:(ZI e.key vk).run P w=.ok vk w:=by rw[a3];simp[ZI,hsb]
       obtain⟨g1,g2⟩:=Qj4 (P:=P) (K:=K) (c':=c) hm ho hp hheap (hrep.set a1 a5 a4 (fun e=>{e with key:=vk}) rfl);refine⟨.tuple #[e.val,goInt e.born],_,?_,_,_,[s],[],M,Z,h,?_,g1,g2⟩
       ·simp[ZZ,run_underlying hu,hget,hkey,a6,hks,Qa8 hheap,a1]
       ·rw[a4];exact Qqn a5 (.pv (.lit _))
      ·exact h.elim
     ·rename_i hj;split at h
      ·rename_i i hi;obtain⟨g1,g2⟩:=Qj4 (P:=P) (K:=K) (c':=c+1) hm ho hp hheap (hrep.push (k:=vk) (c:=c) (v:=i.zero) (x:=.lit i.zero) (.pv (.lit _)));refine⟨.tuple #[i.zero,goInt c],_,?_,_,_,[s],[],M,Z,h,Qqn (.pv (.lit _)) (.pv (.lit _)),g1,g2⟩;simp[ZZ,run_underlying hu,hget,hkey,f1 hj,Qa8 hheap,Qa4 (htab.get hi)]
      ·exact h.elim
     ·exact h.elim
   ·exact h.elim
  ·exact h.elim
 ·exact h.elim
def Qod(H:List Qb)(m st x:SV):Qp:=
 match m,st with
 |.mp s,.pv (.lit (.int _ n))=>match H[s]? with
  |some (.map es c)=>match es.findIdx? (fun e=>(e.2.2:Int)==n)with
   |some j=>match es[j]? with
    |some e=>.eff .any (H.set s (.map (es.set j (e.1,x,e.2.2)) c)) [s] []
    |none=>.fail
   |none=>.fail
  |_=>.fail
 |_,_=>.fail
theorem Zhl{P:Program}{M:Qd}{Z:Env}{H:List Qb}{w:World}{K:Qy}(hm:Mem M Z H w){t:Nat}{m st x:SV}{vm vs v:Value}(hmr:Qf M Z vm m)(hst:Qf M Z vs st)(hx:Qf M Z v x)
  (h:(Qod H m st x).holds H K):Qcm P (QG t vm vs v) M Z H w K:=by
 unfold Qod at h;split at h
 ·rename_i s k n;have:=hst.Zq;subst this;split at h
  ·rename_i es c ho;split at h
   ·rename_i j hj;split at h
    ·rename_i e he;cases hmr with
     |mp _ p hp=>
      obtain⟨arr,hheap,hrep⟩:=(hm.own s _ ho).Qhb hp;obtain⟨q,a1,a2,a3,a4⟩:=hrep.rep j e.1 e.2.1 e.2.2 he;have hget:=run_getObj_map (P:=P) hheap;have hidx:arr.findIdx? (fun e=>(e.born:Int)==n)=some j:=by
       have hborn:∀i:Nat,(arr[i]?).map (fun e=>(e.born:Int)==n)=(es[i]?).map (fun e=>(e.2.2:Int)==n):=fun i=>by
        by_cases hi:i<es.length
        ·obtain⟨z,b1,b2,b3,_⟩:=hrep.rep i es[i].1 es[i].2.1 es[i].2.2 (by simp[hi]);rw[b1];simp[hi,b3]
        ·rw[ZX (by omega),Array.getElem?_eq_none (by rw[hrep.sz];omega)];rfl
       rw[List.findIdx?_eq_some_iff_getElem]at hj;rw[QB];obtain⟨c1,c2,c3⟩:=hj;have hl:j<arr.size:=by rw[hrep.sz];exact c1
       refine⟨hl,?_,fun i hi=>?_⟩
       ·have:=hborn j;simp only[ZK hl,I c1,ZU,ZF]at this;rw[this];exact c2
       ·have hi2:i<arr.size:=by omega
        have hi3:i<es.length:=by omega
        have:=hborn i;simp only[ZK hi2,I hi3,ZU,ZF]at this;rw[this];exact c3 i hi
      obtain⟨g1,g2⟩:=Qj4 (P:=P) (K:=K) (c':=c) hm ho hp hheap (hrep.set (k:=e.1) a1 hx a3 (fun e=>{e with val:=v}) (by rw[<-a2]));refine⟨_,?_,.any,_,[s],[],M,Z,h,rfl,g1,g2⟩;simp[QG,hget,asInt,asIntOf,hidx,Qa8 hheap]
    ·exact h.elim
   ·exact h.elim
  ·exact h.elim
 ·exact h.elim
theorem Zuf{P:Program}{M:Qd}{Z:Env}{arr:Array MapEntry}{kt:TypeId}{d:TypeDesc}(hu:P.underlying kt=some d){k v:Qe}(hd:X7 d k=true){l:List (k.El×v.El)}(hr:Ws M Z arr (Xb k v 0 l))(x:k.El)(w:World):
  (Xg k.eqv x l 0=none->(ZB kt (k.Z2 x) arr.toList).run P w=.ok none w)∧
  (∀j y,Xg k.eqv x l 0=some (j,y)->∃e,arr[j]? =some e∧j<l.length∧e.key=k.Z2 x∧e.born=j∧Qf M Z e.val (v.raw y)∧(ZB kt (k.Z2 x) arr.toList).run P w=.ok (some (j,e.val)) w):=by
 obtain⟨f1,f2⟩:=Qa9 (P:=P) (kt:=kt) (k:=k.Z2 x) hr w;have hs:=Yjb (P:=P) hu hd x l;refine⟨fun h=>f1 (by rw[hs,h];rfl),fun j y h=>?_⟩;obtain⟨e,z,a1,a2,a3,a4,a5,a6⟩:=f2 j (by rw[hs,h];rfl);obtain⟨i,q,b1,b2,b3,b4⟩:=Quc h;have:i=j:=by omega
 subst this;rw[Ky,b2]at a2;simp only[ZU,ZF]at a2;subst a2;have hk:=Qe.eqv_ok k _ _ b4;refine⟨e,a1,(ZN.1 b2).1,by rw[a3,<-hk],by rw[a4];simp,by rw[<-b3];exact a5,a6⟩
theorem Qzw{M:Qd}{Z:Env}:∀{a:Qe} (hs:a.scalar=true) (x:a.El),Qf M Z (a.Z2 x) (a.raw x)
 |.val (.int _),_,_=>.pv (.lit _)
 |.val .str,_,_=>.pv (.lit _)
 |.val .bool,_,_=>.pv (.lit _)
 |.val (.seq _),hs,_=>by cases hs
 |.agg row,hs,x=>by have e:=Qus row x hs;show Qf M Z (.agg (Vm row x).toArray) (.agg ((Zn row x).map .pv));rw[e];refine .agg _ _ (by simp) fun i v y hv hy=>?_;simp only[ZY,ZQ]at hy;obtain⟨q,⟨u,hu,rfl⟩,rfl⟩:=hy;rw[List.getElem?_toArray,hu]at hv;cases hv;exact .pv (.lit _)
theorem Zrh{P:Program}{tab:Qr}(htab:Q9 P tab){kt:Nat}{i:TI}(hi:tab.lookup kt=some i){a:Qe}(h:Up P tab kt i.desc a=true)(x y:a.El)(w:World):(Op.equal kt (a.Z2 x) (a.Z2 y)).run P w=.ok (a.eqv x y) w:=
 Qpn htab (M:=fun _=>none) (Z:=fun _=>none) w 2 kt (a.raw x) (a.raw y) _ _ _ (Yho (d:=i.desc) hi h x y) (Qzw (Qww h) x) (Qzw (Qww h) y) Op.maxDepth (by decide)
theorem Zad{P:Program}{tab:Qr}(htab:Q9 P tab){kt:Nat}{i:TI}(hi:tab.lookup kt=some i){k v:Qe}(h:Up P tab kt i.desc k=true)(x:k.El)(w:World):∀(l:List (k.El×v.El)) (es:List MapEntry) (n:Nat),
  es.length=l.length->(∀(j:Nat) (z:k.El×v.El),l[j]? =some z->∃e:MapEntry,es[j]? =some e∧e.key=k.Z2 z.1)->
  (Xg k.eqv x l n=none->(ZE kt (k.Z2 x) es n).run P w=.ok none w)∧(∀j y,Xg k.eqv x l n=some (j,y)->∃e,n<=j∧es[j-n]? =some e∧(ZE kt (k.Z2 x) es n).run P w=.ok (some (j,e.val)) w)
 |[],[],n,_,_=>⟨fun _=>by simp[ZE],fun j y hf=>by cases hf⟩
 |[],_::_,n,hl,_=>by simp at hl
 |_::_,[],n,hl,_=>by simp at hl
 |z::l,e::es,n,hl,hk=>by
  obtain⟨e',g1,g2⟩:=hk 0 z rfl;simp only[QC,ZF]at g1;subst g1;have he:=Zrh htab hi h x z.1 w;rw[<-g2]at he;obtain⟨ih1,ih2⟩:=Zad htab hi h x w l es (n+1) (by simpa using hl) (fun j z hz=>by simpa using hk (j+1) z (by simpa using hz));simp only[Xg,ZE,ZD,he,J];cases k.eqv x z.1 with
  |true=>exact⟨fun hf=>(by cases hf),fun j y hf=>(by cases hf;exact⟨e,Nat.le_refl _,by simp,by simp⟩)⟩
  |false=>refine⟨fun hf=>by simpa using ih1 hf,fun j y hf=>?_⟩;obtain⟨e2,q1,q2,q3⟩:=ih2 j y hf;refine⟨e2,by omega,?_,by simpa using q3⟩;rw[show j-n=(j-(n+1))+1 by omega];simpa using q2
theorem Ykg{P:Program}{tab:Qr}{kt:Nat}{d:TypeDesc}{k:Qe}(h:Up P tab kt d k=true)(x:k.El)(e:MapEntry)(es:List MapEntry)(n:Nat):R d (k.Z2 x) (e::es) n=none:=by
 have hs:∀u,ZH d (k.Z2 x) u=none:=by
  intro u;unfold Up at h;split at h
  ·split at h
   ·rfl
   ·rfl
   ·cases h
  ·cases h
 simp only[R,hs]
theorem Qfx{P:Program}{tab:Qr}(htab:Q9 P tab){M:Qd}{Z:Env}{arr:Array MapEntry}{kt:TypeId}{i:TI}(hi:tab.lookup kt=some i){k v:Qe}(hd:Qbl P tab kt i.desc k=true){l:List (k.El×v.El)}(hr:Ws M Z arr (Xb k v 0 l))(x:k.El)(w:World):
  (Xg k.eqv x l 0=none->(ZB kt (k.Z2 x) arr.toList).run P w=.ok none w)∧
  (∀j y,Xg k.eqv x l 0=some (j,y)->∃e,arr[j]? =some e∧j<l.length∧e.key=k.Z2 x∧e.born=j∧Qf M Z e.val (v.raw y)∧(ZB kt (k.Z2 x) arr.toList).run P w=.ok (some (j,e.val)) w):=by
 have hu:=(htab.get hi).und;unfold Qbl at hd;split at hd
 ·rename_i hd';exact Zuf hu hd' hr x w
 ·have hlen:arr.toList.length=l.length:=by have:=hr.sz;rw[Qb8]at this;simpa using this
  have hkeys:∀(j:Nat) (z:k.El×v.El),l[j]? =some z->∃e:MapEntry,arr.toList[j]? =some e∧e.key=k.Z2 z.1:=fun j z hz=>by obtain⟨e,a1,a2,_⟩:=hr.rep j (k.Z2 z.1) (v.raw z.2) (0+j) (by rw[Ky,hz];rfl);exact⟨e,by rw[ZG];exact a1,a2⟩
  obtain⟨f1,f2⟩:=Zad htab hi hd x w l arr.toList 0 hlen hkeys;have hfk:∀r,(Xg k.eqv x l 0=none∨∃q,Xg k.eqv x l 0=some q)->(ZE kt (k.Z2 x) arr.toList 0).run P w=.ok r w->(ZB kt (k.Z2 x) arr.toList).run P w=.ok r w:=fun r _ hrun=>by
   unfold ZB;simp only[ZD,run_underlying hu,J];cases hl:arr.toList with
   |nil=>rw[hl]at hrun;simp only[ZE,QD]at hrun;simp only[R,QD];exact hrun
   |cons e es=>rw[Ykg hd x e es 0];rw[hl]at hrun;exact hrun
  refine⟨fun h=>hfk _ (.inl h) (f1 h),fun j y h=>?_⟩;obtain⟨e,_,q2,q3⟩:=f2 j y h;obtain⟨i',q,b1,b2,b3,b4⟩:=Quc h;have e0:i'=j:=by omega
  subst e0;have hk:=Qe.eqv_ok k _ _ b4;obtain⟨e2,a1,a2,a3,a4⟩:=hr.rep i' (k.Z2 q.1) (v.raw q.2) (0+i') (by rw[Ky,b2];rfl);have:e2=e:=by rw[Nat.sub_zero,ZG,a1]at q2;exact QJ q2
  subst this;exact⟨e2,a1,(ZN.1 b2).1,by rw[a2,<-hk],by rw[a3];simp,by rw[<-b3];exact a4,hfk _ (.inr ⟨_,h⟩) q3⟩
def Qvv(P:Program)(tab:Qr)(H:List Qb)(kt et:Nat)(ka va:Qe)(l:List (ka.El×va.El))(k:SV)(ok:Bool):Qp:=
 match tab.lookup kt with
 |none=>.fail
 |some ik=>match Qbl P tab kt ik.desc ka with
  |false=>.fail
  |true=>match tab.lookup et with
   |none=>.fail
   |some ie=>match ka.Qcv k with
    |none=>.fail
    |some kx=>match va.ofZ ie.zero with
     |none=>.fail
     |some z=>.ok (if ok then .tup [va.raw (X5 ka.eqv kx l z),.lit (.bool (Qe3 ka.eqv kx l))]else va.raw (X5 ka.eqv kx l z))
def Qyp:TypeDesc->Value->Value->Option Bool
 |.int _,.int k a,.int k' b=>match decide (k=k')with
  |true=>some (decide (a=b))
  |false=>none
 |.string,.string a,.string b=>some (Qc a b)
 |.bool,.bool a,.bool b=>some (Qfp a b)
 |_,_,_=>none
theorem Zqa{d:TypeDesc}{a b:Value}{c:Bool}(h:Qyp d a b=some c):ZH d a b=some c:=by
 unfold Qyp at h;split at h
 ·rename_i k' a k b;split at h
  ·rename_i e;have e:=of_decide_eq_true e;subst e;simp only[ZH,if_true];rw[<-h];rfl
  ·cases h
 ·simp only[ZH,Qm4];exact h
 ·rename_i a b;cases a<;>cases b<;>(rw[<-h];rfl)
 ·cases h
def Qo1(d:TypeDesc)(kv:Value)(nf:Qp)(ok:Bool):List Zo->Qp
 |[]=>nf
 |e::es=>match Qyp d kv e.1 with
  |some c=>.split c (.ok (if ok then .tup [e.2.1,.lit (.bool true)]else e.2.1)) (Qo1 d kv nf ok es)
  |none=>.fail
theorem Zle{H:List Qb}{K:Qy}{d:TypeDesc}{kv:Value}{nf:Qp}{ok:Bool}:∀(es:List Zo) (i:Nat),(Qo1 d kv nf ok es).holds H K->
  (∃j e,es[j]? =some e∧R d kv (Ki es) i=some (some (i+j,.bool false))∧K (if ok then .tup [e.2.1,.lit (.bool true)]else e.2.1) H [] [])∨
  (R d kv (Ki es) i=some none∧nf.holds H K)
 |[],i,h=>.inr ⟨rfl,h⟩
 |e::es,i,h=>by
  simp only[Qo1]at h;split at h
  ·rename_i c hc;have hs:=Zqa hc;have hd:Ki (e::es)={key:=e.1,val:=.bool false,born:=e.2.2}::Ki es:=rfl;rw[hd];simp only[R,hs];cases c with
   |true=>exact .inl ⟨0,e,rfl,rfl,h.1 rfl⟩
   |false=>
    rcases Zle es (i+1) (h.2 rfl)with⟨j,e',h1,h2,h3⟩|⟨h1,h2⟩
    ·exact .inl ⟨j+1,e',by simpa using h1,by rw[h2];simp;omega,h3⟩
    ·exact .inr ⟨h1,h2⟩
  ·exact h.elim
def Yq1:TypeDesc->Bool
 |.int _=>true
 |.string=>true
 |.bool=>true
 |_=>false
def Qxh(P:Program)(tab:Qr)(kt et:Nat)(es:List Zo)(k:SV)(ok:Bool):Qp:=match k with
 |.pv (.lit kv)=>match tab.lookup kt with
  |none=>.fail
  |some ik=>match Qf0 P es.isEmpty kt kv with
   |false=>.fail
   |true=>Qo1 ik.desc kv (match tab.lookup et with
    |some i=>.ok (if ok then .tup [.lit i.zero,.lit (.bool false)]else .lit i.zero)
    |none=>.fail) ok es
 |_=>.fail
theorem Zbu{P:Program}{tab:Qr}(htab:Q9 P tab){M:Qd}{Z:Env}{H:List Qb}{K:Qy}{kt et:Nat}{es:List Zo}{k:SV}{vk:Value}{ok:Bool}(hkr:Qf M Z vk k)
  (h:(Qxh P tab kt et es k ok).holds H K) {arr:Array MapEntry} (hrep:Ws M Z arr es):∃ v x,K x H [] [] ∧ Qf M Z v x ∧
   ∀(w:World) (t b:Nat) (c:Nat),P.underlying t=some (.map kt et)->w.heap[b]? =some (.map arr c)->(ZM t (.map (some b)) vk ok).run P w=.ok v w:=by
 unfold Qxh at h;split at h
 ·rename_i kv;have:=hkr.Zq;subst this;split at h
  ·exact h.elim
  ·rename_i ik hik;split at h
   ·exact h.elim
   ·rename_i hko;have hdk:P.underlying kt=some ik.desc:=(htab.get hik).und;have hempty:arr.isEmpty=es.isEmpty:=by have:=hrep.sz;simp only[XM,this];cases es<;>simp
    have hseek:∀r,R ik.desc vk (Ki es) 0=some r->Qam P kt vk es=some (r.map (·.1)):=fun r hr=>by
     have:Xd P (ZB kt vk (Ki es))=some r:=by
      unfold ZB;rw[Qhs];have:Xd P (underlying kt)=some ik.desc:=by unfold underlying;rw[Qhs];show(some P).bind _=_;simp only[ZO,hdk,Qbf]
      rw[this];simp only[ZO,hr,Qbf]
     unfold Qam;rw[this];cases r with
     |none=>rfl
     |some p=>rfl
    rcases Zle es 0 h with⟨j,e,h1,h2,h3⟩|⟨h1,h2⟩
    ·obtain⟨me,x,a1,a2,a3,a4,a5,_⟩:=(Qa9 (P:=P) (kt:=kt) (k:=vk) hrep default).2 j (by rw[hseek _ h2];simp);rw[h1]at a2;cases a2;refine⟨_,_,h3,Qa0 (ok:=ok) (b:=true) a5,fun w t b c hu hheap=>?_⟩;obtain⟨me',x',b1,_,_,_,_,b6⟩:=(Qa9 (P:=P) (kt:=kt) (k:=vk) hrep w).2 j (by rw[hseek _ h2];simp);rw[a1]at b1;cases b1;have hkey:=Qdl hko w;rw[<-hempty]at hkey;simp[ZM,run_underlying hu,run_getObj_map (P:=P) hheap,hkey,b6]
    ·split at h2
     ·rename_i i hi;refine⟨_,_,h2,Qa0 (ok:=ok) (b:=false) (.pv (.lit _)),fun w t b c hu hheap=>?_⟩;have hkey:=Qdl hko w;rw[<-hempty]at hkey;simp[ZM,run_underlying hu,run_getObj_map (P:=P) hheap,hkey,(Qa9 (P:=P) (kt:=kt) (k:=vk) hrep w).1 (by rw[hseek _ h1];rfl),Qa4 (htab.get hi)]
     ·exact h2.elim
 ·exact h.elim
def Qmg(P:Program)(tab:Qr)(H:List Qb)(t:Nat)(m k:SV)(ok:Bool):Qp:=
 match m with
 |.mp s=>match H[s]? with
  |some (.tmap ka va l)=>match tab.lookup t with
   |some {desc:=.map kt et,..}=>Qvv P tab H kt et ka va l k ok
   |_=>.fail
  |some (.map es c)=>match tab.lookup t with
   |some {desc:=.map kt et,..}=>match tab.lookup kt with
    |some ik=>match Yq1 ik.desc with
     |true=>Qxh P tab kt et es k ok
     |false=>Qgu P tab H t m k ok
    |none=>.fail
   |_=>.fail
  |_=>Qgu P tab H t m k ok
 |_=>Qgu P tab H t m k ok
theorem Zaa{P:Program}{tab:Qr}(htab:Q9 P tab){M:Qd}{Z:Env}{H:List Qb}{K:Qy}{kt et:Nat}{ka va:Qe}{l:List (ka.El×va.El)}{k:SV}{vk:Value}{ok:Bool}(hkr:Qf M Z vk k)
  (h:(Qvv P tab H kt et ka va l k ok).holds H K) {arr:Array MapEntry} (hr:Ws M Z arr (Xb ka va 0 l)):∃ v x,K x H [] [] ∧ Qf M Z v x ∧
   ∀(w:World) (t b:Nat) (c:Nat),P.underlying t=some (.map kt et)->w.heap[b]? =some (.map arr c)->(ZM t (.map (some b)) vk ok).run P w=.ok v w:=by
 unfold Qvv at h;split at h
 ·exact h.elim
 ·rename_i ik hik;split at h
  ·exact h.elim
  ·rename_i hd;split at h
   ·exact h.elim
   ·rename_i ie hie;split at h
    ·exact h.elim
    ·rename_i kx hkx;split at h
     ·exact h.elim
     ·rename_i z hz;have hvk:=Qps (Qmk hd) (Qe.Qeo hkx hkr);subst hvk;have hdk:P.underlying kt=some ik.desc:=(htab.get hik).und;have hzr:Qf M Z ie.zero (va.raw z):=Qe.Qeo (M:=M) (Z:=Z) hz (.pv (.lit _));cases hf:Xg ka.eqv kx l 0 with
      |none=>
       refine⟨_,_,h,Qa0 (v:=ie.zero) (b:=Qe3 ka.eqv kx l) (ok:=ok) (by unfold X5;rw[hf];exact hzr),fun w t b c hu hheap=>?_⟩;have hb:Qe3 ka.eqv kx l=false:=by unfold Qe3;rw[hf];rfl
       rw[hb];simp[ZM,run_underlying hu,run_getObj_map (P:=P) hheap,Qiq htab hik hd,(Qfx htab hik hd hr kx w).1 hf,Qa4 (htab.get hie)]
      |some q=>
       obtain⟨j,y⟩:=q;obtain⟨e,a1,a2,a3,a4,a5,_⟩:=(Qfx htab hik hd hr kx default).2 j y hf;refine⟨_,_,h,Qa0 (v:=e.val) (b:=Qe3 ka.eqv kx l) (ok:=ok) (by unfold X5;rw[hf];exact a5),fun w t b c hu hheap=>?_⟩;have hb:Qe3 ka.eqv kx l=true:=by unfold Qe3;rw[hf];rfl
       rw[hb];obtain⟨e',b1,_,_,_,_,b6⟩:=(Qfx htab hik hd hr kx w).2 j y hf;rw[a1]at b1;cases b1;simp[ZM,run_underlying hu,run_getObj_map (P:=P) hheap,Qiq htab hik hd,b6]
theorem Zra{P:Program}{tab:Qr}(htab:Q9 P tab){M:Qd}{Z:Env}{H:List Qb}{w:World}{K:Qy}(hm:Mem M Z H w){t:Nat}{m k:SV}{vm vk:Value}{ok:Bool}(hmr:Qf M Z vm m)(hkr:Qf M Z vk k)
  (h:(Qmg P tab H t m k ok).holds H K):Q1 P (ZM t vm vk ok) M Z H w K:=by
 unfold Qmg at h;split at h
 ·rename_i s;split at h
  ·rename_i ka va l ho;split at h
   ·rename_i kt et _ _ _ _ hte;cases hmr with
    |mp _ p hp=>obtain⟨arr,hheap,hrep⟩:=Wz.rep (hm.own s _ ho) hp;obtain⟨v,x,h1,h2,h3⟩:=Zaa htab hkr h hrep;exact Q1.same hm (h3 w t p.block _ (htab.get hte).und hheap) h2 h1
   ·exact h.elim
  ·rename_i es c ho;split at h
   ·rename_i kt et _ _ _ _ hte;split at h
    ·split at h
     ·cases hmr with
      |mp _ p hp=>obtain⟨arr,hheap,hrep⟩:=(hm.own s _ ho).Qhb hp;obtain⟨v,x,h1,h2,h3⟩:=Zbu htab hkr h hrep;exact Q1.same hm (h3 w t p.block _ (htab.get hte).und hheap) h2 h1
     ·exact Qve htab hm hmr hkr h
    ·exact h.elim
   ·exact h.elim
  ·exact Qve htab hm hmr hkr h
 ·exact Qve htab hm hmr hkr h
theorem Qmb{P:Program}{M:Qd}{Z:Env}{H:List Qb}{w:World}{s:Nat}{ka va:Qe}{l l':List (ka.El×va.El)}{p:Place}{arr arr':Array MapEntry}(hm:Mem M Z H w)(ho:H[s]? =some (.tmap ka va l))(hp:Z s=some p)
  (hheap:w.heap[p.block]? = some (.map arr l.length)) (hr:Ws M Z arr' (Xb ka va 0 l')):Mem M Z (H.set s (.tmap ka va l')) { w with heap := w.heap.setIfInBounds p.block (.map arr' l'.length) } ∧
   Fr M Z H w M Z (H.set s (.tmap ka va l')) {w with heap:=w.heap.setIfInBounds p.block (.map arr' l'.length)} H.length [s] []:=by
 have hlt:p.block<w.heap.size:=(ZC.1 hheap).1;exact hm.put ho rfl hp (fun b hb=>Qyj hb) (by simp) rfl ⟨p,arr',hp,by simp[hlt],hr.sz,hr.rep⟩
def Qof(P:Program)(tab:Qr)(H:List Qb)(t:Nat)(m k x:SV):Qp:=
 match m with
 |.mp s=>match H[s]? with
  |some (.tmap ka va l)=>match tab.lookup t with
   |some {desc:=.map kt et,..}=>match tab.lookup kt with
    |none=>.fail
    |some ik=>match Qbl P tab kt ik.desc ka with
     |false=>.fail
     |true=>match ka.Qcv k with
      |none=>.fail
      |some kx=>match va.Qcv x with
       |none=>.fail
       |some y=>.eff .any (H.set s (.tmap ka va (Ke ka.eqv kx y l))) [s] []
   |_=>.fail
  |_=>Qs6 P tab H t m k x
 |_=>Qs6 P tab H t m k x
theorem Zkl{P:Program}{tab:Qr}(htab:Q9 P tab){M:Qd}{Z:Env}{H:List Qb}{w:World}{K:Qy}(hm:Mem M Z H w){t:Nat}{m k x:SV}{vm vk v:Value}(hmr:Qf M Z vm m)(hkr:Qf M Z vk k)(hx:Qf M Z v x)
  (h:(Qof P tab H t m k x).holds H K):Qcm P (ZV t vm vk v) M Z H w K:=by
 unfold Qof at h;split at h
 ·rename_i s;split at h
  ·rename_i ka va l ho;split at h
   ·rename_i kt et _ _ _ _ hte;have hu:P.underlying t=some (.map kt et):=(htab.get hte).und;split at h
    ·exact h.elim
    ·rename_i ik hik;split at h
     ·exact h.elim
     ·rename_i hd;split at h
      ·exact h.elim
      ·rename_i kx hkx;split at h
       ·exact h.elim
       ·rename_i y hy;have hvk:=Qps (Qmk hd) (Qe.Qeo hkx hkr);subst hvk;have hdk:P.underlying kt=some ik.desc:=(htab.get hik).und;have hyr:=Qe.Qeo hy hx;cases hmr with
        |mp _ p hp=>
         obtain⟨arr,hheap,hrep⟩:=Wz.rep (hm.own s _ ho) hp;have hget:=run_getObj_map (P:=P) hheap;cases hf:Xg ka.eqv kx l 0 with
         |none=>
          have hl':Ke ka.eqv kx y l=l++[(kx,y)]:=by unfold Ke;rw[hf]
          rw[hl']at h;obtain⟨g1,g2⟩:=Qmb (P:=P) hm ho hp hheap (l':=l++[(kx,y)]) (arr':=arr.push {key:=ka.Z2 kx,val:=v,born:=l.length}) (by have:=hrep.push (k:=ka.Z2 kx) (c:=l.length) hyr;rw[Zbs];simpa using this);refine⟨_,?_,.any,_,[s],[],M,Z,h,rfl,g1,g2⟩;simp[ZV,run_underlying hu,hget,Qiq htab hik hd,(Qfx htab hik hd hrep kx w).1 hf,Qa8 hheap]
         |some q=>
          obtain⟨j,y0⟩:=q;obtain⟨e,a1,a2,a3,a4,a5,a6⟩:=(Qfx htab hik hd hrep kx w).2 j y0 hf;have hl':Ke ka.eqv kx y l=l.set j (kx,y):=by unfold Ke;rw[hf]
          rw[hl']at h;obtain⟨g1,g2⟩:=Qmb (P:=P) hm ho hp hheap (l':=l.set j (kx,y)) (arr':=arr.modify j fun e=>{e with key:=ka.Z2 kx,val:=v}) (by have:=hrep.set (k:=ka.Z2 kx) a1 hyr a4 (fun e=>{e with key:=ka.Z2 kx,val:=v}) rfl;rw[Qt6];simpa using this);refine⟨_,?_,.any,_,[s],[],M,Z,h,rfl,g1,g2⟩;have hks:(ZI (((arr[j]?).map (·.key)).getD (ka.Z2 kx)) (ka.Z2 kx)).run P w=.ok (ka.Z2 kx) w:=by rw[a1];simp only[ZU,XH,a3];simp[ZI,Zb3 (Qmk hd)]
          simp[ZV,run_underlying hu,hget,Qiq htab hik hd,a6,hks,Qa8 hheap]
   ·exact h.elim
  ·exact Zco htab hm hmr hkr hx h
 ·exact Zco htab hm hmr hkr hx h
def Qkg{K V:Type}(eq:K->K->Bool)(k:K)(l:List (K×V))(z:V):List (K×V):=match Xg eq k l 0 with
 |some p=>l.set p.1 (k,p.2)
 |none=>l++[(k,z)]
def Qvx(P:Program)(tab:Qr)(H:List Qb)(t:Nat)(m k:SV):Qp:=
 match m with
 |.mp s=>match H[s]? with
  |some (.tmap ka va l)=>match tab.lookup t with
   |some {desc:=.map kt et,..}=>match tab.lookup kt with
    |none=>.fail
    |some ik=>match Qbl P tab kt ik.desc ka with
     |false=>.fail
     |true=>match tab.lookup et with
      |none=>.fail
      |some ie=>match ka.Qcv k with
       |none=>.fail
       |some kx=>match va.ofZ ie.zero with
        |none=>.fail
        |some z=>.eff (.tup [va.raw (X5 ka.eqv kx l z),.lit (.int .i64 (Qlg ka.eqv kx l))]) (H.set s (.tmap ka va (Qkg ka.eqv kx l z))) [s] []
   |_=>.fail
  |_=>Qrg P tab H t m k
 |_=>Qrg P tab H t m k
theorem Yqx{P:Program}{tab:Qr}(htab:Q9 P tab){M:Qd}{Z:Env}{H:List Qb}{w:World}{K:Qy}(hm:Mem M Z H w){t:Nat}{m k:SV}{vm vk:Value}(hmr:Qf M Z vm m)(hkr:Qf M Z vk k)
  (h:(Qvx P tab H t m k).holds H K):Q1 P (ZZ t vm vk) M Z H w K:=by
 unfold Qvx at h;split at h
 ·rename_i s;split at h
  ·rename_i ka va l ho;split at h
   ·rename_i kt et _ _ _ _ hte;have hu:P.underlying t=some (.map kt et):=(htab.get hte).und;split at h
    ·exact h.elim
    ·rename_i ik hik;split at h
     ·exact h.elim
     ·rename_i hd;split at h
      ·exact h.elim
      ·rename_i ie hie;split at h
       ·exact h.elim
       ·rename_i kx hkx;split at h
        ·exact h.elim
        ·rename_i z hz;have hvk:=Qps (Qmk hd) (Qe.Qeo hkx hkr);subst hvk;have hdk:P.underlying kt=some ik.desc:=(htab.get hik).und;have hzr:Qf M Z ie.zero (va.raw z):=Qe.Qeo (M:=M) (Z:=Z) hz (.pv (.lit _));cases hmr with
         |mp _ p hp=>
          obtain⟨arr,hheap,hrep⟩:=Wz.rep (hm.own s _ ho) hp;have hget:=run_getObj_map (P:=P) hheap;cases hf:Xg ka.eqv kx l 0 with
          |none=>
           have e1:Qkg ka.eqv kx l z=l++[(kx,z)]:=by unfold Qkg;rw[hf]
           have e2:X5 ka.eqv kx l z=z:=by unfold X5;rw[hf]
           have e3:Qlg ka.eqv kx l=l.length:=by unfold Qlg;rw[hf]
           rw[e1,e2,e3]at h;obtain⟨g1,g2⟩:=Qmb (P:=P) hm ho hp hheap (l':=l++[(kx,z)]) (arr':=arr.push {key:=ka.Z2 kx,val:=ie.zero,born:=l.length}) (by have:=hrep.push (k:=ka.Z2 kx) (c:=l.length) hzr;rw[Zbs];simpa using this);refine⟨.tuple #[ie.zero,goInt l.length],_,?_,_,_,[s],[],M,Z,h,Qqn hzr (.pv (.lit _)),g1,g2⟩;simp[ZZ,run_underlying hu,hget,Qiq htab hik hd,(Qfx htab hik hd hrep kx w).1 hf,Qa8 hheap,Qa4 (htab.get hie)]
          |some q=>
           obtain⟨j,y0⟩:=q;obtain⟨e,a1,a2,a3,a4,a5,a6⟩:=(Qfx htab hik hd hrep kx w).2 j y0 hf;have e1:Qkg ka.eqv kx l z=l.set j (kx,y0):=by unfold Qkg;rw[hf]
           have e2:X5 ka.eqv kx l z=y0:=by unfold X5;rw[hf]
           have e3:Qlg ka.eqv kx l=j:=by unfold Qlg;rw[hf]
           rw[e1,e2,e3]at h;obtain⟨g1,g2⟩:=Qmb (P:=P) hm ho hp hheap (l':=l.set j (kx,y0)) (arr':=arr.modify j fun e=>{e with key:=ka.Z2 kx}) (by have:=hrep.set (k:=ka.Z2 kx) a1 a5 a4 (fun e=>{e with key:=ka.Z2 kx}) rfl;rw[Qt6];simpa using this);refine⟨.tuple #[e.val,goInt e.born],_,?_,_,_,[s],[],M,Z,h,?_,g1,g2⟩
           ·have hks:(ZI e.key (ka.Z2 kx)).run P w=.ok (ka.Z2 kx) w:=by rw[a3];simp[ZI,Zb3 (Qmk hd)]
            simp[ZZ,run_underlying hu,hget,Qiq htab hik hd,a6,hks,Qa8 hheap,a1]
           ·rw[a4];exact Qqn a5 (.pv (.lit _))
   ·exact h.elim
  ·exact Zj9 htab hm hmr hkr h
 ·exact Zj9 htab hm hmr hkr h
def Qvk{K V:Type}(j:Nat)(x:V)(l:List (K×V)):List (K×V):=match l[j]? with
 |some e=>l.set j (e.1,x)
 |none=>l
def Qu2(H:List Qb)(m st x:SV):Qp:=
 match m with
 |.mp s=>match H[s]? with
  |some (.tmap ka va l)=>match st with
   |.pv (.lit (.int _ n))=>match va.Qcv x with
    |none=>.fail
    |some y=>.need (decide (0<=n)) (.need (decide (n.toNat<l.length)) (.eff .any (H.set s (.tmap ka va (Qvk n.toNat y l))) [s] []))
   |_=>.fail
  |_=>Qod H m st x
 |_=>Qod H m st x
theorem Yay{P:Program}{M:Qd}{Z:Env}{H:List Qb}{w:World}{K:Qy}(hm:Mem M Z H w){t:Nat}{m st x:SV}{vm vs v:Value}(hmr:Qf M Z vm m)(hst:Qf M Z vs st)(hx:Qf M Z v x)
  (h:(Qu2 H m st x).holds H K):Qcm P (QG t vm vs v) M Z H w K:=by
 unfold Qu2 at h;split at h
 ·rename_i s;split at h
  ·rename_i ka va l ho;split at h
   ·rename_i k n;have:=hst.Zq;subst this;split at h
    ·exact h.elim
    ·rename_i y hy;obtain⟨h0,h1,h⟩:=h;have h0:=of_decide_eq_true h0;have h1:=of_decide_eq_true h1;have hyr:=Qe.Qeo hy hx;obtain⟨j,rfl⟩:∃j:Nat,n=j:=⟨n.toNat,by omega⟩;simp only[Int.toNat_natCast]at h h1;cases hmr with
     |mp _ p hp=>
      obtain⟨arr,hheap,hrep⟩:=Wz.rep (hm.own s _ ho) hp;have hsz:=hrep.sz;rw[Qb8]at hsz;have hgete:∀(i:Nat) (hi:i<l.length),∃e,arr[i]? =some e∧e.key=ka.Z2 l[i].1∧e.born=i∧Qf M Z e.val (va.raw l[i].2):=fun i hi=>by obtain⟨e,a1,a2,a3,a4⟩:=hrep.rep i (ka.Z2 l[i].1) (va.raw l[i].2) i (by rw[Ky,I hi];simp);exact⟨e,a1,a2,a3,a4⟩
      obtain⟨e,a1,a2,a3,a4⟩:=hgete j h1;have hidx:arr.findIdx? (fun e=>(e.born:Int)==(j:Int))=some j:=by
       rw[QB];refine⟨by omega,?_,fun i hi=>?_⟩
       ·rw[ZK (by omega)]at a1;simp only[ZF]at a1;rw[a1,a3];simp
       ·obtain⟨e',b1,_,b3,_⟩:=hgete i (by omega);rw[ZK (by omega)]at b1;simp only[ZF]at b1;rw[b1,b3];simp;omega
      have el:Qvk j y l=l.set j (l[j].1,y):=by unfold Qvk;rw[I h1]
      rw[el]at h;obtain⟨g1,g2⟩:=Qmb (P:=P) hm ho hp hheap (l':=l.set j (l[j].1,y)) (arr':=arr.modify j fun e=>{e with val:=v}) (by have:=hrep.set (k:=ka.Z2 l[j].1) a1 hyr a3 (fun e=>{e with val:=v}) (by rw[<-a2]);rw[Qt6];simpa using this);refine⟨_,?_,.any,_,[s],[],M,Z,h,rfl,g1,g2⟩;simp[QG,run_getObj_map (P:=P) hheap,asInt,asIntOf,hidx,Qa8 hheap]
   ·exact h.elim
  ·exact Zhl hm hmr hst hx h
 ·exact Zhl hm hmr hst hx h
def Qb.Qni:Qb->Option (List (Value×SV×Nat)×Nat)
 |.map es c=>some (es,c)
 |.tmap k v l=>some (Xb k v 0 l,l.length)
 |_=>none
theorem Qts{M:Qd}{Z:Env}{w:World}{s:Nat}{o:Qb}{q:List (Value×SV×Nat)×Nat}(h:o.Qni=some q)(ho:Q6 M Z w s o):Wz M Z w s q.1 q.2:=by cases o<;>first|(cases h;done)|(cases h;exact ho)
def Qy1(tab:Qr)(H:List Qb)(t:Nat)(x:SV):Qp:=
 match tab.lookup t,x with
 |some {desc:=.string,..},.pv (.lit (.string s))=>.eff (.ptr H.length 0 0 0) (H++[.iter s 0]) [] []
 |some {desc:=.map _ _,..},.mp m=>match H[m]? with
  |some o=>match o.Qni with
   |some q=>.eff (.ptr H.length 0 0 0) (H++[.mit (some m) q.2 []]) [] []
   |none=>.fail
  |none=>.fail
 |_,_=>.fail
theorem Zz6{P:Program}{tab:Qr}(htab:Q9 P tab){M:Qd}{Z:Env}{H:List Qb}{w:World}{K:Qy}(hm:Mem M Z H w){t:Nat}{x:SV}{v:Value}(hx:Qf M Z v x)(h:(Qy1 tab H t x).holds H K):Q1 P (QP t v) M Z H w K:=by
 unfold Qy1 at h;split at h
 ·rename_i sz' by' zr rw' s hte;have hu:P.underlying t=some .string:=(htab.get hte).und;have:=hx.Zq;subst this;have hrun:(QP t (.string s)).run P w=.ok (.pointer (some ⟨w.heap.size,0,none⟩)) (w.alloc (.stringIter s 0)):=by simp[QP,run_underlying hu]
  obtain⟨g1,g2⟩:=hm.alloc (w':=w.alloc (.stringIter s 0)) (o:=.stringIter s 0) (so:=.iter s 0) (cap:=0) rfl ⟨_,Env.set_self ..,heap_alloc_new w _⟩;exact⟨_,_,hrun,_,_,[],[],M,_,h,.ptr _ _ _ _ _ _ (Env.set_self ..) (by simp),g1,g2⟩
 ·rename_i k e sz' by' zr rw' m hte;have hu:P.underlying t=some (.map k e):=(htab.get hte).und;split at h
  ·rename_i o ho;split at h
   ·rename_i q hq;obtain⟨es,c⟩:=q;obtain⟨pm,arr,h1,h2,h3,h4⟩:=Qts hq (hm.own m _ ho);simp only at h2 h;cases hx with
    |mp _ p hp=>
     rw[hp]at h1;cases h1;have hget:(getObj pm.block).run P w=.ok (.map arr c) w:=by simp[getObj,QM,h2]
     have hrun:(QP t (.map (some pm.block))).run P w=.ok (.pointer (some ⟨w.heap.size,0,none⟩)) (w.alloc (.mapIter (some pm.block) c #[] c)):=by simp[QP,run_underlying hu,hget]
     have hne:m≠H.length:=fun e=>by have:=(ZN.1 ho).1;omega
     obtain⟨g1,g2⟩:=hm.alloc (w':=w.alloc (.mapIter (some pm.block) c #[] c)) (o:=.mapIter (some pm.block) c #[] c) (so:=.mit (some m) c []) (cap:=0) rfl
       ⟨_,_,_,Env.set_self ..,heap_alloc_new w _,rfl,fun mm e=>by cases e;exact⟨pm,by rw[Env.Xc _ _ hne];exact hp,rfl⟩⟩
     exact⟨_,_,hrun,_,_,[],[],M,_,h,.ptr _ _ _ _ _ _ (Env.set_self ..) (by simp),g1,g2⟩
   ·exact h.elim
  ·exact h.elim
 ·exact h.elim
def Qwh(H:List Qb)(x:SV):Qp:=
 match x with
 |.ptr s 0 0 0=>match H[s]? with
  | some (.iter b pos)=>.split (decide (pos < b.size))
    (.eff (.tup [.lit (.bool true),.lit (.int .i64 pos),.lit (.int .i32 (QQ b pos).1)]) (H.set s (.iter b (pos+(QQ b pos).2))) [s] [])
    (.ok (.tup [.lit (.bool false)]))
  |_=>.fail
 |_=>.fail
theorem Yqa{P:Program}{M:Qd}{Z:Env}{H:List Qb}{w:World}{K:Qy}(hm:Mem M Z H w){t:Nat}{x:SV}{v:Value}(hx:Qf M Z v x)(h:(Qwh H x).holds H K):Q1 P (XF v true t) M Z H w K:=by
 unfold Qwh at h;split at h
 ·rename_i s;split at h
  ·rename_i b pos ho;cases hx with
   |ptr _ _ _ _ k p hp hk=>
    obtain⟨q,h1,h2⟩:=hm.own s _ ho;rw[hp]at h1;cases h1;have hk0:k=0:=by simpa using hk
    subst hk0;have hget:(getObj p.block).run P w=.ok (.stringIter b pos) w:=by simp[getObj,QM,h2]
    have hset:∀o,(setObj p.block o).run P w=.ok () {w with heap:=w.heap.setIfInBounds p.block o}:=fun o=>by simp[setObj,QM,h2]
    have hlt:p.block<w.heap.size:=(ZC.1 h2).1;obtain⟨ht,hf⟩:=h;by_cases hpos:pos<b.size
    ·have h':=ht (by simpa using hpos);obtain⟨g1,g2⟩:=hm.put (so:=.iter b (pos+(QQ b pos).2)) (w':={w with heap:=w.heap.setIfInBounds p.block (.stringIter b (pos+(QQ b pos).2))}) ho rfl hp (fun b' hb=>Qyj hb) (by simp) rfl
      ⟨p,hp,by simp[hlt]⟩
     refine⟨.tuple #[.bool true,goInt pos,.int .i32 (QQ b pos).1],_,?_,_,_,[s],[],M,Z,h',?_,g1,g2⟩
     ·simp[XF,hget,hpos,hset]
     ·refine .tup _ _ rfl fun i a c ha hc=>?_;match i with
      |0=>simp at ha hc;subst ha;subst hc;exact .pv (.lit _)
      |1=>simp at ha hc;subst ha;subst hc;exact .pv (.lit _)
      |2=>simp at ha hc;subst ha;subst hc;exact .pv (.lit _)
      |i+3=>simp at hc
    ·have h':=hf (by simpa using hpos);refine Q1.same hm (v:=.tuple #[.bool false]) ?_ ?_ h'
     ·simp[XF,hget,hpos]
     ·refine .tup _ _ rfl fun i a c ha hc=>?_;match i with
      |0=>simp at ha hc;subst ha;subst hc;exact .pv (.lit _)
      |i+1=>simp at hc
  ·exact h.elim
 ·exact h.elim
def Qsv(s m c:Nat)(seen:List Nat)(H:List Qb):List (Value×SV×Nat)->Qp
 |[]=>.ok (.tup [.lit (.bool false)])
 |[e]=>.eff (.tup [.lit (.bool true),.lit e.1,e.2.1]) (H.set s (.mit (some m) c (seen++[e.2.2]))) [s] []
 |e::e'::es=>.both (.eff (.tup [.lit (.bool true),.lit e.1,e.2.1]) (H.set s (.mit (some m) c (seen++[e.2.2]))) [s] []) (Qsv s m c seen H (e'::es))
def Qu3(H:List Qb)(x:SV):Qp:=
 match x with
 |.ptr s 0 0 0=>match H[s]? with
  |some (.mit (some m) c seen)=>match H[m]? with
   |some o=>match o.Qni with
    |some q=>.need (QK q.2 c&&q.1.all fun e=>Nat.blt e.2.2 c) (Qsv s m c seen H (q.1.filter fun e=>!seen.contains e.2.2))
    |none=>.fail
   |none=>.fail
  |_=>.fail
 |_=>.fail
theorem Yhv{s m c:Nat}{seen:List Nat}{H:List Qb}{K:Qy}{l:List (Value×SV×Nat)}(h:(Qsv s m c seen H l).holds H K)(hl:l=[]):K (.tup [.lit (.bool false)]) H [] []:=by subst hl;exact h
theorem Zb6{s m c:Nat}{seen:List Nat}{H:List Qb}{K:Qy}:∀{l:List (Value×SV×Nat)},(Qsv s m c seen H l).holds H K->∀e∈l,K (.tup [.lit (.bool true),.lit e.1,e.2.1]) (H.set s (.mit (some m) c (seen++[e.2.2]))) [s] []
 |[],h,e,he=>by cases he
 |[e0],h,e,he=>by rw[List.mem_singleton.1 he];exact h
 |e0::e1::l,h,e,he=>by
  rcases List.mem_cons.1 he with rfl|he
  ·exact h.1
  ·exact Zb6 (l:=e1::l) h.2 e he
theorem Yjy{P:Program}{M:Qd}{Z:Env}{H:List Qb}{w:World}{K:Qy}(hm:Mem M Z H w){t:Nat}{x:SV}{v:Value}(hx:Qf M Z v x)(h:(Qu3 H x).holds H K):Q1 P (XF v false t) M Z H w K:=by
 unfold Qu3 at h;split at h
 ·rename_i s;split at h
  ·rename_i m c seen ho;split at h
   rotate_left
   ·exact h.elim
   rename_i om hom0;split at h
   ·rename_i qm hqm;obtain⟨es,c'⟩:=qm;have hom:=Qts hqm (hm.own m _ hom0);obtain⟨hc,h⟩:=h;rw[C]at hc;simp only at hc h hom;have hcc:=U hc.1;subst hcc;have hbn:∀e∈es,e.2.2<c':=fun e he=>by have:=List.all_eq_true.1 hc.2 e he;rwa[Nat.blt_eq]at this
    cases hx with
    |ptr _ _ _ _ k p hp hk=>
     obtain⟨p',q,sn,h1,h2,h3,h4⟩:=hm.own s _ ho;rw[hp]at h1;cases h1;obtain⟨pm,a1,a2⟩:=h4 m rfl;subst a2;obtain⟨pm',arr,b1,b2,b3,b4⟩:=hom;rw[a1]at b1;cases b1;have hk0:k=0:=by simpa using hk
     subst hk0;have hent:∀(i:Nat) (me:MapEntry),arr[i]? =some me->∃e,es[i]? =some e∧me.key=e.1∧me.born=e.2.2∧Qf M Z me.val e.2.1:=fun i me hme=>by
      have hi:i<es.length:=by rw[<-b3];exact(ZC.1 hme).1
      obtain⟨e,d1,d2,d3,d4⟩:=b4 i _ _ _ (I hi);rw[hme]at d1;cases d1;exact⟨_,I hi,d2,d3,d4⟩
     have hold:∀me∈arr.toList,me.born<c':=fun me hme=>by obtain⟨i,hi⟩:=QI hme;obtain⟨e,d1,_,d3,_⟩:=hent i me (by simpa using hi);rw[d3];exact hbn e (QZ d1)
     have hleft:∀me,me∈(leftOf arr sn).toList↔me∈arr.toList∧¬me.born∈seen:=fun me=>by unfold leftOf;simp[<-h3]
     rcases run_next_at (P:=P) w t p.block pm.block c' c' sn arr c' h2 b2 hold (Nat.le_refl _)with⟨hz,hr⟩|⟨me,hme,w1,hw1,hr⟩
     ·have hnil:(es.filter fun e=>!seen.contains e.2.2)=[]:=by
       rw[List.filter_eq_nil_iff];intro e he;obtain⟨i,hi⟩:=QI he;obtain⟨me,d1,d2,d3,d4⟩:=b4 i e.1 e.2.1 e.2.2 hi;intro hn;have hmem:me∈(leftOf arr sn).toList:=(hleft me).2 ⟨by simpa using Array.mem_of_getElem? d1,by rw[d3];simpa using hn⟩;have:(leftOf arr sn).toList=[]:=by simpa using hz
       rw[this]at hmem;cases hmem
      have hk:=Yhv h hnil;refine Q1.same hm hr ?_ hk;refine .tup _ _ rfl fun i a c ha hc=>?_;match i with
      |0=>simp at ha hc;subst ha;subst hc;exact .pv (.lit _)
      |i+1=>simp at hc
     ·obtain⟨m1,m2⟩:=(hleft me).1 hme;obtain⟨i,hi⟩:=QI m1;obtain⟨e,d1,d2,d3,d4⟩:=hent i me (by simpa using hi);have hein:e∈es.filter fun e=>!seen.contains e.2.2:=List.mem_filter.2 ⟨QZ d1,by rw[<-d3];simpa using m2⟩;have hk:=Zb6 h e hein;have hlt:p.block<w.heap.size:=(ZC.1 h2).1;have hh1:w1.heap=w.heap∧w1.os=w.os∧w1.output=w.output:=by rcases hw1 with rfl|rfl<;>exact⟨rfl,rfl,rfl⟩
      obtain⟨g1,g2⟩:=hm.put (so:=.mit (some m) c' (seen++[e.2.2])) (w':=ChangeMaps.setBlock w1 p.block (.mapIter (some pm.block) c' (sn.push me.born) c')) ho rfl hp
       (fun b' hb=>by show(w1.heap.setIfInBounds p.block _)[b']? =_;rw[hh1.1,Array.getElem?_setIfInBounds,if_neg fun e=>hb e.symm])
       (by show(w1.heap.setIfInBounds p.block _).size=_;rw[hh1.1];simp) rfl
       ⟨p,some pm.block,sn.push me.born,hp,by show(w1.heap.setIfInBounds p.block _)[p.block]? =_;rw[hh1.1];simp[hlt],by simp[h3,d3],fun mm e=>by cases e;exact⟨pm,a1,rfl⟩⟩
       ⟨hh1.2.1,hh1.2.2⟩
      refine⟨_,_,hr,_,_,[s],[],M,Z,hk,?_,g1,g2⟩;refine .tup _ _ rfl fun i a c ha hc=>?_;match i with
      |0=>simp at ha hc;subst ha;subst hc;exact .pv (.lit _)
      |1=>simp at ha hc;subst ha;subst hc;rw[d2];exact .pv (.lit _)
      |2=>simp at ha hc;subst ha;subst hc;exact d4
      |i+3=>simp at hc
   ·exact h.elim
  ·exact h.elim
 ·exact h.elim
def Qg1(H:List Qb)(x:SV):Qp:=
 match x with
 |.ptr s 0 0 0=>match H[s]? with
  |some (.mit (some m) c seen)=>match H[m]? with
   |some o=>match o.Qni with
    |some q=>match seen.getLast? with
     |some st=>match q.1.find? fun e=>QK e.2.2 st with
      |some e=>.need (QK q.2 c) (.ok (.tup [.lit e.1,e.2.1]))
      |none=>.fail
     |none=>.fail
    |none=>.fail
   |none=>.fail
  |_=>.fail
 |_=>.fail
theorem Qs1{P:Program}{M:Qd}{Z:Env}{H:List Qb}{w:World}{K:Qy}(hm:Mem M Z H w){x:SV}{v:Value}(hx:Qf M Z v x)(h:(Qg1 H x).holds H K):Q1 P (XI v) M Z H w K:=by
 unfold Qg1 at h;split at h
 rotate_left
 ·exact h.elim
 rename_i s;split at h
 rotate_left
 ·exact h.elim
 rename_i m c seen ho;split at h
 rotate_left
 ·exact h.elim
 rename_i om hom0;split at h
 rotate_left
 ·exact h.elim
 rename_i qm hqm;obtain⟨es,c'⟩:=qm;have hom:=Qts hqm (hm.own m _ hom0);split at h
 rotate_left
 ·exact h.elim
 rename_i st hst;split at h
 rotate_left
 ·exact h.elim
 rename_i e he;obtain⟨hc,h⟩:=h;simp only at hc h hom he;have hcc:=U hc;subst hcc;cases hx with
 |ptr _ _ _ _ k p hp hk=>
  obtain⟨p',q,sn,h1,h2,h3,h4⟩:=hm.own s _ ho;rw[hp]at h1;cases h1;obtain⟨pm,a1,a2⟩:=h4 m rfl;subst a2;obtain⟨pm',arr,b1,b2,b3,b4⟩:=hom;rw[a1]at b1;cases b1;have hk0:k=0:=by simpa using hk
  subst hk0;obtain⟨hp1,i,hi,hei,hmin⟩:=ZP.1 he;obtain⟨me,d1,d2,d3,d4⟩:=b4 i e.1 e.2.1 e.2.2 (by rw[I hi,hei]);have hst':e.2.2=st:=U hp1;have hf:arr.find? (fun x=>x.born==st)=some me:=by
   rw[<-Array.find?_toList];obtain⟨hia,hme⟩:=ZC.1 d1;refine ZP.2 ⟨by rw[d3,hst'];simp,i,by simpa using hia,by simpa using hme,fun j hj=>?_⟩;have hj':j<es.length:=by omega
   obtain⟨mj,e1,e2,e3,e4⟩:=b4 j _ _ _ (I hj');have hja:j<arr.size:=by omega
   have e1':arr[j]=mj:=by rw[ZK hja]at e1;exact QJ e1
   have hne:=hmin j hj;simp only[Array.getElem_toList,e1',e3];cases hb:QK (es[j]).2.2 st with
   |true=>rw[hb]at hne;simp at hne
   |false=>
    have:(es[j]).2.2≠st:=fun hh=>by rw[hh,XG]at hb;cases hb
    simp[this]
  have hback:sn.back? =some st:=by rw[<-h3]at hst;rw[<-Array.getLast?_toList];exact hst
  refine Q1.same hm (v:=.tuple #[me.key,me.val]) ?_ ?_ h
  ·simp only[XI,getObj,ZD,QM,h2,b2,Result.andThen,hback,bne_self_eq_false,ZL,if_false,hf];rfl
  ·refine .tup _ _ rfl fun i a b ha hb=>?_;match i with
   |0=>simp at ha hb;subst ha;subst hb;rw[d2];exact .pv (.lit _)
   |1=>simp at ha hb;subst ha;subst hb;exact d4
   |i+2=>simp at hb
def Qe.Y8:(a:Qe)->a.El
 |.val t=>t.Y8
 |.agg row=>Ql.Y8 row
def Qbm(l:List Nat):Nat:=l.getLastD 0
theorem Yfg{l:List Nat}(h:0<l.length):l.getLast? =some (Qbm l):=by
 unfold Qbm;cases e:l.getLast? with
 |none=>rw[List.getLast?_eq_none_iff]at e;subst e;simp at h
 |some x=>rw[List.getLastD_eq_getLast?,e];rfl
theorem Ypy{k v:Qe}{l:List (k.El×v.El)}{j:Nat}(h:j<l.length):(Xb k v 0 l).find? (fun e=>QK e.2.2 j)=some (k.Z2 l[j].1,v.raw l[j].2,j):=by
 rw[ZP];have hg:∀i (hi:i<l.length),(Xb k v 0 l)[i]? =some (k.Z2 l[i].1,v.raw l[i].2,i):=fun i hi=>by rw[Ky,I hi];simp
 have hl:j<(Xb k v 0 l).length:=by rw[Qb8];exact h
 refine⟨XG j,j,hl,?_,fun i hi=>?_⟩
 ·have:=hg j h;rw[I hl]at this;exact QJ this
 ·have hi':i<l.length:=by omega
  have:=hg i hi';have hil:i<(Xb k v 0 l).length:=by rw[Qb8];exact hi'
  rw[I hil]at this;rw[QJ this];show(! QK i j)=true;rw[Bool.not_eq_true'];cases he:QK i j with
  |false=>rfl
  |true=>have:=U he;omega
def Qtz(H:List Qb)(x:SV):Qp:=
 match x with
 |.ptr s 0 0 0=>match H[s]? with
  |some (.mit (some m) c seen)=>match H[m]? with
   |some (.tmap k v l)=>match k.scalar with
    |true=>.need (decide (c=l.length)) <| .need (decide (0<seen.length)) <| .need (decide (Qbm seen<l.length)) <| .ok (.tup [k.raw (l.getD (Qbm seen) (k.Y8,v.Y8)).1,v.raw (l.getD (Qbm seen) (k.Y8,v.Y8)).2])
    |false=>.fail
   |_=>Qg1 H x
  |_=>Qg1 H x
 |_=>Qg1 H x
theorem Znp{P:Program}{M:Qd}{Z:Env}{H:List Qb}{w:World}{K:Qy}(hm:Mem M Z H w){x:SV}{v:Value}(hx:Qf M Z v x)(h:(Qtz H x).holds H K):Q1 P (XI v) M Z H w K:=by
 unfold Qtz at h;split at h
 ·rename_i s;split at h
  ·rename_i m c seen ho;split at h
   ·rename_i k va l hl;split at h
    ·rename_i hks;obtain⟨hc,hs,hlt,h⟩:=h;have hc:=of_decide_eq_true hc;have hs:=of_decide_eq_true hs;have hlt:=of_decide_eq_true hlt;rw[List.getD_eq_getElem?_getD,I hlt]at h;have h:K (.tup [k.raw l[Qbm seen].1,va.raw l[Qbm seen].2]) H [] []:=h;have h0:(Qg1 H (.ptr s 0 0 0)).holds H fun x' H' t g=>H'=H∧t=[]∧g=[]∧x'=.tup [.lit (k.Z2 l[Qbm seen].1),va.raw l[Qbm seen].2]:=by unfold Qg1;simp only[ho,hl,Qb.Qni,Yfg hs,Ypy hlt];exact⟨by rw[hc];exact XG _,rfl,rfl,rfl,rfl⟩
     obtain⟨u,w',hr,y,H',t,g,M',Z',⟨rfl,rfl,rfl,rfl⟩,hrep,hm',hf⟩:=Qs1 (P:=P) hm hx h0;refine⟨u,w',hr,_,_,_,_,M',Z',h,?_,hm',hf⟩;cases hrep with
     |tup cs _ hlen hrep=>
      refine .tup cs _ hlen fun i a b ha hb=>?_;match i with
      |0=>simp only[QC,ZF]at hb;subst hb;have:=(hrep 0 a _ ha rfl).Zq;subst this;exact Qzw hks _
      |1=>simp only[QV,QC,ZF]at hb;subst hb;exact hrep 1 a _ ha rfl
      |i+2=>simp at hb
    ·exact h.elim
   ·exact Qs1 hm hx h
  ·exact Qs1 hm hx h
 ·exact Qs1 hm hx h
end Go.Sx
