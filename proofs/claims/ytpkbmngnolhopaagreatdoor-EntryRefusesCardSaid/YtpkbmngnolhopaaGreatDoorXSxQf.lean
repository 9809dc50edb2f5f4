/- Part Qf of the own logic: functions of data and their summaries. Part Qg of the own logic: functions of data: their summaries, and how they come of the evaluator. And further parts. -/
import Derived.Test.YtpkbmngnolhopaaGreatDoorXSxQs
import GoSem.ClaimJoined
import Derived.ChangeSame
import Derived.ChangeVars
import Derived.JoinedOf
import Derived.RowKit
import Derived.WideKeyArgs
import Derived.Below
import Derived.Handed
import Derived.CallsIn
set_option linter.unusedVariables false
set_option linter.unusedSimpArgs false
set_option linter.unnecessarySimpa false
set_option maxRecDepth 100000
open List renaming getElem?_eq_some_iff->C,getElem?_eq_getElem->ZB,toArray->ZC,getElem?_cons_zero->ZF,getElem?_map->ZG,mem_cons->ZJ,mem_of_getElem?->ZK,range->ZN,mem_append->ZP,all_eq_true->ZU,all_cons->ZW,mem_cons_of_mem->Q1,getElem?_append->Q2,append_nil->QC,getD_eq_getElem?_getD->QD,length_cons->QF,map_map->QH,take_of_length_le->QI,length_map->QJ,getElem?_eq_none->QK,mem_append_right->QL,mem_range->QM,mem_append_left->QN,mem_cons_self->QQ,mem_singleton->QR,take_add_one->QS,mapM_cons->QU,drop_drop->QV,drop_zero->QW,take_add->QX
open Option renaming map_eq_some_iff->J,bind_eq_some_iff->QG,bind->QO
open Bool renaming and_eq_true->ZA,or_eq_true->QT
open ByteArray renaming empty->ZD
open Go.DataW renaming weightsEach->ZE,trod->ZL,TrodAll->ZQ,weightsAll->ZV,weights->ZY
open Option.some renaming injEq->ZH
open Nat renaming eq_of_beq_eq_true->ZI,le_of_ble_eq_true->ZM,le_refl->ZO,lt_of_lt_of_le->ZS,beq->ZX,zero_le->ZZ,not_lt_zero->QB,ble->QP
open Function renaming comp_def->ZR
open Array renaming getElem?_toList->ZT,toArray_toList->QA
open Go.Utf8 renaming decode->QE
namespace Go.Sx
open Go
def Qt:List Qe->Type
 |[]=>Unit
 |[a]=>a.El
 |a::a'::l=>a.El×Qt (a'::l)
def Qt.eqv:(l:List Qe)->Qt l->Qt l->Bool
 |[]=>Qhm
 |[a]=>a.eqv
 |a::a'::l=>W9 a.eqv (Qt.eqv (a'::l))
theorem Qt.eqv_ok:∀(l:List Qe),Y3 (Qt.eqv l)
 |[]=>fun a b h=>rfl
 |[a]=>Qe.eqv_ok a
 |a::a'::l=>Qew (Qe.eqv_ok a) (Qt.eqv_ok (a'::l))
def Yu:(l:List Qe)->Qt l->List SV
 |[],_=>[]
 |[a],x=>[a.sv x]
 |a::a'::l,x=>a.sv x.1::Yu (a'::l) x.2
def rdL(H:List Qb)(n:Nat):(l:List Qe)->List SV->Option (Bool×Qt l)
 |[]=>Qs8
 |[a]=>Qyr (rdA H n a)
 |a::a'::l=>Qit (rdA H n a) (rdL H n (a'::l))
theorem Qf.Ys3{M:Qd}{U ρ2:Env}{v:Value}{x:SV}(h:Qf M U v x):x.free 0=true->Qf M ρ2 v x:=by
 have fl:∀(l:List SV),Vh 0 l=true->∀(i:Nat) (x:SV),l[i]? =some x->x.free 0=true:=by
  intro l;induction l with
  |nil=>intro _ i x h;simp at h
  |cons y l ih=>
   intro h i x hx;simp only[Vh,ZA]at h;cases i with
   |zero=>simp at hx;subst hx;exact h.1
   |succ i=>exact ih h.2 i x (by simpa using hx)
 induction h with
 |any v=>intro _;exact .any v
 |pv h=>intro _;exact .pv h
 |agg cs l hl _ ih=>intro hf;exact .agg cs l hl fun i v x hv hx=>ih i v x hv hx (fl l hf i x hx)
 |tup cs l hl _ ih=>intro hf;exact .tup cs l hl fun i v x hv hx=>ih i v x hv hx (fl l hf i x hx)
 |fn f a b x y ha hb _ _ ih jh=>intro hf;simp only[SV.free,ZA]at hf;exact .fn f a b x y ha hb (fun i v s hv hs=>ih i v s hv hs (fl x hf.1 i s hs)) (fun i v s hv hs=>jh i v s hv hs (fl y hf.2 i s hs))
 |ptr s=>intro hf;simp[SV.free]at hf
 |sl s=>intro hf;simp[SV.free]at hf
 |slz s=>intro hf;simp[SV.free]at hf
 |mp s=>intro hf;simp[SV.free]at hf
 |yld s=>intro hf;simp[SV.free]at hf
 |slb s=>intro hf;simp[SV.free]at hf
theorem Yg2(l:List PV):Vh 0 (l.map .pv)=true:=by
 induction l with
 |nil=>rfl
 |cons x l ih=>simp[Vh,SV.free,ih]
theorem Ycr(l:List PV):(SV.X7 (l.map .pv)).free 0=true:=by
 unfold SV.X7;split
 ·rfl
 ·simp only[SV.free];exact Yg2 l
theorem Qe.Zl7:∀(a:Qe) (x:a.El),(a.sv x).free 0=true
 |.val t,x=>rfl
 |.agg row,x=>Ycr _
theorem Zdk:∀(l:List Qe) (x:Qt l),Vh 0 (Yu l x)=true
 |[],_=>rfl
 |[a],x=>by show((a.sv x).free 0&&true)=true;rw[Qe.Zl7 a x];rfl
 |a::a'::l,x=>by simp only[Yu,Vh,Qe.Zl7,Zdk (a'::l),Bool.and_self]
theorem Yqo(l:List Qe)(x:Qt l):(X6 (Yu l x)).free 0=true:=by
 have h:=Zdk l x;unfold X6;split
 ·rename_i y e;rw[e]at h;simpa[Vh]using h
 ·exact h
theorem Zil{M:Qd}{U:Env}(n:Nat):∀(k:Nat),
  (∀(t:Ty),SizeOf.sizeOf t<=k->Qe7 M U M (rdT [] n t) t.pv)∧(∀(ts:List Ty),SizeOf.sizeOf ts<=k->Qb0 M U M ts (Va [] n ts)):=by
 have hle:=M.le_refl;intro k;induction k with
 |zero=>exact⟨fun t ht=>by(cases t<;>simp at ht),fun ts ht=>by(cases ts<;>simp at ht)⟩
 |succ k ih=>
  obtain⟨ih1,ih2⟩:=ih;refine⟨fun t ht=>?_,fun ts ht=>?_⟩
  ·match t,ht with
   |.int k,ht=>exact Qhl hle (Qxd k)
   |.bool,ht=>exact Qhl hle Quf
   |.str,ht=>exact Qhl hle Qvw
   |.seq row,ht=>
    intro x c y v h hc hr;have h:Qj8 [] n row (Va [] n row) x=some (c,y):=h;unfold Qj8 at h;split at h
    ·split at h
     ·rename_i y' hy;cases h;cases hr with
      |pv hp=>exact Ty.Zab (t:=.seq row) hy hp
     ·cases h
    ·split at h
     ·cases h
     ·simp at h
    ·cases h
  ·match ts,ht with
   |[],ht=>exact Zcx
   |[t],ht=>exact Zlb (ih1 t (by simp at ht;omega))
   |t::t'::ts,ht=>exact Zco (ih1 t (by simp at ht;omega)) (ih2 (t'::ts) (by simp at ht⊢;omega))
theorem Yq4{M:Qd}{U ρ2:Env}{n:Nat}{a:Qe}{x:SV}{c:Bool}{y:a.El}{v:Value}(h:rdA [] n a x=some (c,y))(hc:c=true)(hr:Qf M U v x):Qf M ρ2 v (a.sv y):=by
 cases a with
 |val t=>exact .pv ((Zil n _).1 t (ZO _) x c y v h hc hr)
 |agg row=>
  refine Qe.Zlz ?_;have fin:∀(cs:Array Value) (xs:List SV) (y:Qj row),Kh M U M row xs y->cs.size=xs.length->(∀(i:Nat) (u:Value) (x:SV),cs[i]? =some u->xs[i]? =some x->Qf M U u x)->Qf M ρ2 (.agg cs) ((Qe.agg row).raw y):=fun cs xs y hf hl hr=>by refine .agg cs _ (by rw[hl,hf.1];simp[V3]) fun i u z hu hz=>?_;simp only[ZG,J]at hz;obtain⟨q,hq,rfl⟩:=hz;obtain⟨x,hx,himp⟩:=hf.2 i q hq;exact .pv (himp u (hr i u x hu hx))
  replace h:Qfr [] n row x=some (c,y):=h;unfold Qfr at h;split at h
  ·rename_i cs;split at h
   ·rename_i y' hy;cases h;have:=hr.Zt;subst this;refine fin cs _ _ (Kh.of M.le_refl hy) (by simp) fun i u x hu hx=>?_;simp only[ZG,J,ZT]at hx;obtain⟨p,⟨u',hu',rfl⟩,rfl⟩:=hx;rw[hu]at hu';cases hu';exact .pv (.lit _)
   ·cases h
  ·rename_i l;cases hr with
   |agg cs _ hl hr=>exact fin cs l y ((Zil n _).2 row (ZO _) _ _ _ h hc) hl hr
  ·cases h
def Qtw(M M2:Qd)(U ρ2:Env){α:Type}(f:List SV->Option (Bool×α))(g:α->List SV):Prop:=
 ∀(xs:List SV) (c:Bool) (y:α),f xs=some (c,y)->c=true->(g y).length=xs.length∧
  ∀(i:Nat) (v:Value) (z x:SV),(g y)[i]? =some z->xs[i]? =some x->Qf M U v x->Qf M2 ρ2 v z
theorem Qxp{M M2:Qd}{U ρ2:Env}{H:List Qb}{n:Nat}(ha:∀(a:Qe) (x:SV) (c:Bool) (y:a.El) (v:Value),rdA H n a x=some (c,y)->c=true->Qf M U v x->Qf M2 ρ2 v (a.sv y)):
  ∀(l:List Qe),Qtw M M2 U ρ2 (rdL H n l) (Yu l)
 |[]=>by
  intro xs c y h hc;match xs,h with
  |[],h=>exact⟨rfl,fun i v z x hz hx=>by simp at hx⟩
  |_::_,h=>cases h
 |[a]=>by
  intro xs c y h hc;match xs,h with
  |[],h=>cases h
  |_::_::_,h=>cases h
  |[x],h=>
   replace h:rdA H n a x=some (c,y):=h;refine⟨rfl,fun i v z x' hz hx' hr=>?_⟩;cases i with
   |zero=>simp only[Yu,ZF,ZH]at hz hx';subst hz;subst hx';exact ha a x c y v h hc hr
   |succ i=>simp at hx'
 |a::a'::l=>by
  intro xs c y h hc;match xs,h with
  |[],h=>cases h
  |x::xs,h=>
   replace h:Qit (rdA H n a) (rdL H n (a'::l)) (x::xs)=some (c,y):=h;simp only[Qit]at h;split at h
   ·cases h
   ·rename_i p h1;split at h
    ·cases h
    ·rename_i q h2;cases h;rw[ZA]at hc;obtain⟨g1,g2⟩:=Qxp ha (a'::l) xs q.1 q.2 h2 hc.2;refine⟨by simp only[Yu,QF,g1],fun i v z x' hz hx' hr=>?_⟩;cases i with
     |zero=>simp only[Yu,ZF,ZH]at hz hx';subst hz;subst hx';exact ha a x p.1 p.2 v h1 hc.1 hr
     |succ i=>simp only[Yu,List.getElem?_cons_succ]at hz hx';exact g2 i v z x' hz hx' hr
theorem Zd9{M:Qd}{U ρ2:Env}{H:List Qb}{w:World}{n:Nat}(hm:Mem M U H w)(l:List Qe):Qtw M (M.sealing U H n w) U ρ2 (rdL H n l) (Yu l):=
 Qxp (fun a x c y v h hc hr=>Qyt hm h hc hr) l
theorem Zg2{M:Qd}{U ρ2:Env}{n:Nat}(l:List Qe):Qtw M M U ρ2 (rdL [] n l) (Yu l):=
 Qxp (fun a x c y v h hc hr=>Yq4 h hc hr) l
structure PC where
 ats:List Qe
 rts:List Qe
 code:Qt ats->Option (Qt rts)
structure Qg (cx:Cx) (g:Nat) (pc:PC):Prop where
 fn:∃fn,cx.fns.lookup g=some fn
 ok:∀a y,pc.code a=some y->Xw cx.P g (Yu pc.ats a) [] fun r H' t f=>r=X6 (Yu pc.rts y)∧H'=[]∧t=[]∧f=[]
def PC.sm(pc:PC):Sm where
 pre:=fun args H=>(rdL [] 0 pc.ats args).isSome||((rdL H 0 pc.ats args).isSome&&pc.rts.all Qe.scalar)
 run:=fun X args H k=>match rdL [] 0 pc.ats args with
  |some p=>gd p.1 (match pc.code p.2 with
   |some y=>k (X6 (Yu pc.rts y)) H [] []
   |none=>none)
  |none=>match rdL H 0 pc.ats args with
   |some p=>gd (p.1&&pc.rts.all Qe.scalar) (match pc.code p.2 with
    |some y=>k (X6 (Yu pc.rts y)) H [] []
    |none=>none)
   |none=>none
def Qo3:List SV->Bool
 |[]=>true
 |.pv (.lit _)::l=>Qo3 l
 |_=>false
def SV.Qnp:SV->Bool
 |.pv (.lit _)=>true
 |.agg l=>Qo3 l
 |_=>false
theorem Zbz:∀{l:List SV},Qo3 l=true->∀(i:Nat) (x:SV),l[i]? =some x->∃v,x=.lit v
 |[],_,i,x,h=>by simp at h
 |.pv (.lit v)::l,hl,i,x,h=>by
  cases i with
  |zero=>simp at h;exact⟨v,h.symm⟩
  |succ i=>exact Zbz (l:=l) hl i x (by simpa using h)
theorem Zjx{M M2:Qd}{U ρ2:Env}{v:Value}{x:SV}(hs:x.Qnp=true)(h:Qf M U v x):Qf M2 ρ2 v x:=by
 match x,hs,h with
 |.pv (.lit u),_,h=>rw[h.Zt];exact .pv (.lit _)
 |.agg l,hs,.agg cs _ hl hr=>refine .agg cs l hl fun i v x hv hx=>?_;obtain⟨u,rfl⟩:=Zbz hs i x hx;rw[(hr i v _ hv hx).Zt];exact .pv (.lit _)
theorem Zai:∀(row:List Ty) (x:Qj row),row.all Ty.scalar=true->Qo3 ((Zs row x).map .pv)=true
 |[],_,_=>rfl
 |[t],x,h=>by cases t<;>first|rfl|(simp[Ty.scalar]at h)
 |t::t'::ts,x,h=>by simp only[ZW,ZA]at h;have:=Zai (t'::ts) x.2 (by simp only[ZW,ZA];exact h.2);cases t<;>first|exact this|(simp[Ty.scalar]at h)
theorem Qe.Zl5(a:Qe)(x:a.El)(h:a.scalar=true):(a.sv x).Qnp=true:=by
 cases a with
 |val t=>cases t<;>first|rfl|(simp[Qe.scalar,Ty.scalar]at h)
 |agg row=>
  show(SV.X7 ((Zs row x).map .pv)).Qnp=true;unfold SV.X7;split
  ·rfl
  ·exact Zai row x h
theorem Zhu:∀(l:List Qe) (y:Qt l),l.all Qe.scalar=true->∀(i:Nat) (x:SV),(Yu l y)[i]? =some x->x.Qnp=true
 |[],_,_,i,x,h=>by simp[Yu]at h
 |[a],y,hs,i,x,h=>by
  cases i with
  |zero=>simp only[Yu,ZF,ZH]at h;subst h;exact Qe.Zl5 a y (by simpa using hs)
  |succ i=>simp[Yu]at h
 |a::a'::l,y,hs,i,x,h=>by
  simp only[ZW,ZA]at hs;cases i with
  |zero=>simp only[Yu,ZF,ZH]at h;subst h;exact Qe.Zl5 a y.1 hs.1
  |succ i=>exact Zhu (a'::l) y.2 (by simp only[ZW,ZA];exact hs.2) i x (by simpa[Yu]using h)
theorem Yab{M M2:Qd}{U ρ2:Env}{v:Value}{l:List SV}(hs:∀(i:Nat) (x:SV),l[i]? =some x->x.Qnp=true)(h:Qf M U v (X6 l)):Qf M2 ρ2 v (X6 l):=by
 unfold X6 at h⊢;split at h
 ·rename_i x;exact Zjx (hs 0 x rfl) h
 ·cases h with
  |tup cs _ hl hr=>exact .tup cs _ hl fun i v x hv hx=>Zjx (hs i x hx) (hr i v x hv hx)
def Wa:Env:=fun _=>none
theorem Qlr{M:Qd}{w:World}(h:∀b o,M b=some o->w.heap[b]? =some o):Mem M Wa [] w:=
 ⟨h,fun s o ho=>by simp at ho,fun s o p b ho=>by simp at ho,fun s s' o o' p p' b ho=>by simp at ho,fun s _=>rfl,fun s o p b ho=>by simp at ho⟩
theorem Qcf{b:Nat}:¬J7 Wa [] b:=fun⟨s,o,p,h,_⟩=>by simp at h
theorem PC.Qu{cx:Cx}{g:Nat}{pc:PC}(h:Qg cx g pc):Qbu cx g pc.sm:=by
 refine⟨h.fn,fun X args H k y hk=>?_⟩;have hk:(match rdL [] 0 pc.ats args with
  |some p=>gd p.1 (match pc.code p.2 with
   |some y=>k (X6 (Yu pc.rts y)) H [] []
   |none=>none)
  |none=>match rdL H 0 pc.ats args with
   |some p=>gd (p.1&&pc.rts.all Qe.scalar) (match pc.code p.2 with
    |some y=>k (X6 (Yu pc.rts y)) H [] []
    |none=>none)
   |none=>none)=some y:=hk
 have keep:∀(w w':World) (M2 M2':Qd) (U':Env) (H':List Qb) (t f:List Nat),Fr M2 Wa [] w M2' U' H' w' 0 t f->∀b,b<w.heap.size->w'.heap[b]? =w.heap[b]? :=fun w w' M2 M2' U' H' t f hf b hb=>hf.same b hb Qcf;split at hk
 ·rename_i p hrd;obtain⟨hc,hk⟩:=Ym hk;split at hk
  ·rename_i z hz;intro M U w vs hm hr;obtain⟨l1,l2⟩:=Zg2 (M:=M) (U:=U) (ρ2:=Wa) pc.ats args p.1 p.2 hrd hc;refine(h.ok p.2 z hz M Wa w vs (Qlr hm.imm) ⟨by rw[hr.1,l1],fun i v x hv hx=>?_⟩).mono ?_
   ·obtain⟨x',hx'⟩:∃x',args[i]? =some x':=by
     have:i<args.length:=by rw[<-l1];exact(C.1 hx).1
     exact⟨_,ZB this⟩
    exact l2 i v x x' hx hx' (hr.2 i v x' hv hx')
   ·rintro e w' ⟨v,r,H',M',U',t,f,he,⟨rfl,rfl,rfl,rfl⟩,hs,hm',hf⟩
    have hsame:=keep _ _ _ _ _ _ _ _ hf;refine⟨v,_,H,M',U,[],[],he,hk,hs.Ys3 (Yqo _ z),?_,?_⟩
    ·refine⟨hm'.imm,fun s o ho=>?_,fun s o p b ho hl hp hb=>?_,hm.diss,hm.fresh,fun s o p b ho hl hp hb=>ZS (hm.lts s o p b ho hl hp hb) hf.grow⟩
     ·by_cases hl:o.live=true
      ·exact(hm.own s o ho).mono hf.imm U.le_refl rfl fun p b hp hb=>hsame _ (hm.J0 ho hl hp hb)
      ·rw[Qcc hl];trivial
     ·cases e:M' b with
      |none=>rfl
      |some ob=>
       rcases hf.new b ob (hm.seps s o p b ho hl hp hb) e with h1|h1
       ·have:=hm.J0 ho hl hp hb;omega
       ·exact absurd h1 Qcf
    ·exact⟨hf.imm,fun b o a c=>(hf.new b o a c).imp id fun h=>absurd h Qcf,fun b hb=>.inr hb,fun b hb _=>hsame b hb,hf.grow,fun s o _ _ ho hl=>⟨⟨o,ho,hl⟩,fun p hp=>⟨hp,fun b hb=>hsame _ (hm.J0 ho hl hp hb)⟩⟩,fun _ _ _=>rfl,hf.io⟩
  ·cases hk
 ·split at hk
  ·rename_i p hrd;obtain⟨hc,hk⟩:=Ym hk;rw[ZA]at hc;split at hk
   ·rename_i z hz;intro M U w vs hm hr;obtain⟨l1,l2⟩:=Zd9 (n:=0) (ρ2:=Wa) hm pc.ats args p.1 p.2 hrd hc.1;have hM2:∀b o,(M.sealing U H 0 w) b=some o->w.heap[b]? =some o:=fun b o hb=>by
     cases e:M b with
     |some o'=>rw[Qd.Ws M U H 0 w b o' e]at hb;cases hb;exact hm.imm b _ e
     |none=>exact(Qd.Kl e hb).2
    refine(h.ok p.2 z hz (M.sealing U H 0 w) Wa w vs (Qlr hM2) ⟨by rw[hr.1,l1],fun i v x hv hx=>?_⟩).mono ?_
    ·obtain⟨x',hx'⟩:∃x',args[i]? =some x':=by
      have:i<args.length:=by rw[<-l1];exact(C.1 hx).1
      exact⟨_,ZB this⟩
     exact l2 i v x x' hx hx' (hr.2 i v x' hv hx')
    ·rintro e w' ⟨v,r,H',M',U',t,f,he,⟨rfl,rfl,rfl,rfl⟩,hs,hm',hf⟩
     have hsame:=keep _ _ _ _ _ _ _ _ hf;refine⟨v,_,H,M,U,[],[],he,hk,Yab (Zhu _ z hc.2) hs,?_,?_⟩
     ·refine⟨fun b o hb=>?_,fun s o ho=>?_,hm.seps,hm.diss,hm.fresh,fun s o p b ho hl hp hb=>ZS (hm.lts s o p b ho hl hp hb) hf.grow⟩
      ·rw[hsame b (hm.Qnj hb)];exact hm.imm b o hb
      ·by_cases hl:o.live=true
       ·exact(hm.own s o ho).mono M.le_refl U.le_refl rfl fun p b hp hb=>hsame _ (hm.J0 ho hl hp hb)
       ·rw[Qcc hl];trivial
     ·exact⟨M.le_refl,fun b o a c=>(by rw[a]at c;cases c),fun b hb=>.inr hb,fun b hb _=>hsame b hb,hf.grow,fun s o _ _ ho hl=>⟨⟨o,ho,hl⟩,fun p hp=>⟨hp,fun b hb=>hsame _ (hm.J0 ho hl hp hb)⟩⟩,fun _ _ _=>rfl,hf.io⟩
   ·cases hk
  ·cases hk
def Zjk(cx:Cx)(fn:Func)(rts:List Qe):KX (Qt rts):=fun e s=>
 gd (Qki e) (match shut s.marks s.H with
  |none=>none
  |some H'=>Qdv cx {s with H:=H',marks:=[]} fn.results.toList fun l=>match rdL H' 0 rts l with
   |none=>none
   |some p=>gd p.1 (some p.2))
def Z6(cx:Cx)(lx:Lx)(n:Nat)(an:Zi)(fn:Func)(c:Code)(ats rts:List Qe)(a:Qt ats):Option (Qt rts):=
 Jg cx lx n (Qt rts) (Qt.eqv rts) an true fn.ntmps c (.entry (Yu ats a) []) (Zjk cx fn rts)
theorem Yi1{cx:Cx}{fn:Func}{rts:List Qe}{e:Exit}{s:St}{y:Qt rts}(h:Zjk cx fn rts e s=some y):
  (e=.normal∨e=.ret)∧∃H',shut s.marks s.H=some H'∧U8 cx {s with H:=H',marks:=[]} fn.results.toList fun l=>∃c,c=true∧rdL H' 0 rts l=some (c,y):=by
 obtain⟨h1,h⟩:=Ym h;refine⟨Qqt h1,?_⟩;split at h
 ·cases h
 ·rename_i H' hs;refine⟨H',hs,Qc7 _ _ _ (fun l hl=>?_) (Qgh _ _ h)⟩;split at hl
  ·cases hl
  ·rename_i p hp;obtain⟨h2,hl⟩:=Ym hl;cases hl;exact⟨p.1,h2,hp⟩
theorem Qg.Yg{cx:Cx}(hcx:cx.Ok){lx:Lx}(hlx:lx.Ok cx){n g:Nat}{an:Zi}{fn:Func}{c:Code}{pc:PC}(hf:cx.fns.lookup g=some fn)(hb:fn.body=some c)
  (hcode:∀a y,pc.code a=some y->Z6 cx lx n an fn c pc.ats pc.rts a=some y) (hn:QP pc.ats.length fn.ntmps=true):Qg cx g pc:=by
 refine⟨⟨fn,hf⟩,fun a y hy=>?_⟩;have hlen:∀(l:List Qe) (x:Qt l),(Yu l x).length=l.length:=by
  intro l;induction l with
  |nil=>intro _;rfl
  |cons a l ih=>
   cases l with
   |nil=>intro _;rfl
   |cons b l=>intro x;simp only[Yu,QF,ih x.2]
 have hw:=(Qra hcx hlx n).1 _ _ (Qt.eqv_ok pc.rts) none an true fn.ntmps c _ _ y (fun _=>rfl) (hcode a y hy);have hcall:Xw cx.P g (Yu pc.ats a) [] fun r H' t f=>∃l cc,r=X6 l∧cc=true∧rdL H' 0 pc.rts l=some (cc,y):=by refine Qn7 hcx hf hb (by rw[hlen];exact ZM hn) (hw.mono fun e s hs=>?_);obtain⟨h1,H',h2,h3⟩:=Yi1 hs;exact⟨h1,.inl (ZZ _),H',h2,Qc7 _ _ _ (fun l ⟨cc,h4,h5⟩=>⟨l,cc,rfl,h4,h5⟩) h3⟩
 intro M U w vs hm hr;refine(hcall M U w vs hm hr).mono ?_
 rintro e w' ⟨v,r,H',M',U',t,f,he,⟨l,cc,rfl,hcc,hrd⟩,hs,hm',hfr⟩
 obtain⟨g1,g2⟩:=Zd9 (n:=0) (ρ2:=Wa) hm' pc.rts l cc y hrd hcc;have hne:U=Wa:=by funext s;exact hm.fresh s (ZZ _)
 have hM2:∀b o,(M'.sealing U' H' 0 w') b=some o->w'.heap[b]? =some o:=fun b o hb=>by
  cases e:M' b with
  |some o'=>rw[Qd.Ws M' U' H' 0 w' b o' e]at hb;cases hb;exact hm'.imm b _ e
  |none=>exact(Qd.Kl e hb).2
 refine⟨v,_,[],M'.sealing U' H' 0 w',Wa,[],[],he,⟨rfl,rfl,rfl,rfl⟩,?_,Qlr hM2,?_⟩
 ·unfold X6 at hs⊢;split at hs
  ·rename_i x;match hsv:Yu pc.rts y,g1 with
   |[z],_=>simp only;exact g2 0 v z x (by rw[hsv];rfl) rfl hs
  ·rename_i hx;have hx2:∀z,Yu pc.rts y=[z]->False:=fun z hz=>by
    rw[hz]at g1;match l,g1 with
    |[x],_=>exact hx x rfl
   cases hs with
   |tup cs _ hl hrr=>
    have:Qf (M'.sealing U' H' 0 w') Wa (.tuple cs) (.tup (Yu pc.rts y)):=.tup cs _ (by rw[hl,g1]) fun i u z hu hz=>by
     obtain⟨x',hx'⟩:∃x',l[i]? =some x':=by
      have:i<l.length:=by rw[<-g1];exact(C.1 hz).1
      exact⟨_,ZB this⟩
     exact g2 i u z x' hz hx' (hrr i u x' hu hx')
    match hsv:Yu pc.rts y with
    |[]=>simp only;rw[<-hsv];exact this
    |[z]=>exact absurd hsv (fun h=>hx2 z h)
    |z::z'::zs=>simp only;rw[<-hsv];exact this
 ·have hsl:=Qd.Ws M' U' H' 0 w';refine⟨Qd.le_trans hfr.imm hsl,fun b o h0 h1=>?_,fun b hb=>absurd hb Qcf,hfr.same,hfr.grow,fun s o hs=>absurd hs (QB s),fun s hs=>absurd hs (QB s),hfr.io⟩;cases e:M' b with
  |some o'=>exact hfr.new b o' h0 e
  |none=>obtain⟨⟨s2,o2,p2,k1,k2,k3,k4,k5⟩,_⟩:=Qd.Kl e h1;exact hfr.own b ⟨s2,o2,p2,k2,by cases o2<;>simp_all [Qb.Km,Qb.live],k4,.inl k5⟩
theorem Lx.Ud{cx:Cx}{an:List (Nat×Zi)}{st:List Nat}:Lx.Ok cx {ext:=[],anns:=an,still:=st}:=⟨fun q hq=>(by cases hq),rfl⟩
theorem Lx.Zp{cx:Cx}{g:Nat}{sm:Sm}{l:List (Nat×Sm)}{an:List (Nat×Zi)}{st:List Nat}(h:Qbu cx g sm)(hl:Lx.Ok cx {ext:=l,anns:=an,still:=st}):Lx.Ok cx {ext:=(g,sm)::l,anns:=an,still:=st}:=
 ⟨fun q hq=>by
  rcases ZJ.1 hq with rfl|hq
  ·exact h
  ·exact hl.ext q hq,rfl⟩
def Qa(α:Type):List α:=[]
def Qs(fn:Func):Code:=match fn.body with
 |some c=>c
 |none=>.skip
inductive Loc where
 |arg (i:Nat)
 |cap (l:Loc) (j:Nat)
 |fst (l:Loc) (j:Nat)
 |fld (k j:Nat)
structure PX where
 np:Nat
 locs:List Loc
 τ:Qk
 nr:Nat
 ω:Qk
 ids:List Nat
 mv:List Nat
 code:τ.El->Option ω.El
abbrev PX.no(px:PX):Nat:=px.locs.length
def Wd(H:List Qb):St:={T:=.full 8,H:=H,n0:=H.length,tch:=[],fg:=[],marks:=[],er:=[]}
def Qe6(T:TT)(n:Nat):List SV:=(ZN n).map fun i=>(T.get i).getD .any
def Kw(n:Nat):List Qb:=List.replicate n .dead
def PX.Zmc(px:PX)(x:px.τ.El):St:=px.τ.st [] (ZN px.no) [] (Wd (Kw px.no)) x
def PX.args(px:PX)(x:px.τ.El):List SV:=Qe6 (px.Zmc x).T px.np
def PX.objs(px:PX)(x:px.τ.El):List Qb:=(px.Zmc x).H
def PX.Zl2(px:PX)(x:px.τ.El)(y:px.ω.El):St:=px.ω.st [] px.ids px.mv (Wd (px.objs x)) y
def PX.res(px:PX)(x:px.τ.El)(y:px.ω.El):List SV:=Qe6 (px.Zl2 x y).T px.nr
def PX.Kk(px:PX)(x:px.τ.El)(y:px.ω.El):List Qb:=(px.Zl2 x y).H
structure Zm (cx:Cx) (g:Nat) (px:PX):Prop where
 fn:∃fn,cx.fns.lookup g=some fn
 ok:∀x y,px.code x=some y->Xw cx.P g (px.args x) (px.objs x) fun r H' t f=>r=X6 (px.res x y)∧H'=px.Kk x y∧(∀i∈t,i∈px.ids)∧∀i∈f,i∈px.mv
def Zqj:SV->Option Nat
 |.ptr s _ _ _=>some s
 |.sl s _ _ _=>some s
 |.mp s=>some s
 |_=>none
def Loc.find(args:List SV)(H:List Qb)(O:List Nat):Loc->Option SV
 |.arg i=>args[i]?
 |.cap l j=>match l.find args H O with
  |some (.fn _ _ b)=>b[j]?
  |_=>none
 |.fst l j=>match l.find args H O with
  |some (.fn _ a _)=>a[j]?
  |_=>none
 |.fld k j=>match O[k]? with
  |none=>none
  |some s=>match H[s]? with
   |none=>none
   |some o=>match Qa7 o with
    |some (_,_,r)=>r[j]?
    |none=>none
def Qqe(args:List SV)(H:List Qb):List Loc->List Nat->Option (List Nat)
 |[],O=>some O
 |l::ls,O=>match l.find args H O with
  |none=>none
  |some x=>match Zqj x with
   |none=>none
   |some s=>Qqe args H ls (O++[s])
def idx:List Nat->Nat->Nat->Option Nat
 |[],_,_=>none
 |a::l,i,s=>match ZX a s with
  |true=>some i
  |false=>idx l (i+1) s
def Qkm(O:List Nat)(H:List Qb)(s:Nat):Qb:=match H[s]? with
 |some o=>o.Ya (idx O 0)
 |none=>.dead
def Uf(O:List Nat)(H:List Qb):List Qb:=O.map (Qkm O H)
def Qzp(O:List Nat)(args:List SV)(H:List Qb):St:=
 {T:=Qdt (.full 8) 0 (Uw (idx O 0) args),H:=Uf O H,n0:=O.length,tch:=[],fg:=[],marks:=[],er:=[]}
def Qmx:List Nat->Bool
 |[]=>true
 |x::l=>!l.contains x&&Qmx l
def Kt(O:List Nat)(Hv:List Qb):List Nat->List Qb->List Qb
 |[],H=>H
 |k::ids,H=>Kt O Hv ids (match O[k]? with
  |none=>H
  |some s=>match Hv[k]? with
   |none=>H
   |some o=>H.set s (o.Ya fun k=>O[k]?))
def through(O:List Nat):List Nat->List Nat
 |[]=>[]
 |k::l=>match O[k]? with
  |some s=>s::through O l
  |none=>through O l
def PX.fit(px:PX)(O:List Nat)(args:List SV)(H:List Qb):Bool:=
 ZX O.length px.no&&(Qmx O&&((O.all fun s=>Nat.blt s H.length)&&(ZX args.length px.np&&(px.τ.W7 (ZN px.no)&&((subset px.mv px.ids&&(px.ids.all fun k=>Nat.blt k px.no))&&(ZN px.no).all fun k=>px.ids.contains k||(px.τ.cells.filterMap Qq.id?).contains k)))))
def PX.sm(px:PX):Sm where
 pre:=fun args H=>match Qqe args H px.locs []with
  |none=>false
  |some O=>px.fit O args H&&(px.τ.read px.no (Qzp O args H)).isSome
 run:=fun X args H k=>match Qqe args H px.locs []with
  |none=>none
  |some O=>gd (px.fit O args H) (match Qf1 px.τ [] (ZN px.no) [] px.no (Qzp O args H)with
   |none=>none
   |some x=>match px.code x with
    |none=>none
    |some y=>k ((X6 (px.res x y)).Ya fun k=>O[k]?) (Kt O (px.Kk x y) px.ids (Wu (through O px.mv) H)) (through O px.ids) (through O px.mv))
theorem Qpq:∀{O:List Nat} {i s k:Nat},idx O i s=some k->∃j,k=i+j∧O[j]? =some s
 |[],i,s,k,h=>by cases h
 |a::l,i,s,k,h=>by
  simp only[idx]at h;split at h
  ·rename_i e;cases h;exact⟨0,rfl,by simp[ZI e]⟩
  ·obtain⟨j,h1,h2⟩:=Qpq h;exact⟨j+1,by omega,by simpa using h2⟩
theorem Qvc:∀{O:List Nat},Qmx O=true->∀(i j s:Nat),O[i]? =some s->O[j]? =some s->i=j
 |[],_,i,j,s,h,_=>by simp at h
 |a::l,hn,i,j,s,hi,hj=>by
  simp only[Qmx,ZA,Bool.not_eq_true']at hn;have hna:a∉l:=by have:=hn.1;simpa using this
  cases i with
  |zero=>
   cases j with
   |zero=>rfl
   |succ j=>simp at hi hj;subst hi;exact absurd (ZK hj) hna
  |succ i=>
   cases j with
   |zero=>simp at hi hj;subst hj;exact absurd (ZK hi) hna
   |succ j=>have:=Qvc hn.2 i j s (by simpa using hi) (by simpa using hj);omega
theorem Qzx{O:List Nat}{H:List Qb}{k:Nat}{o:Qb}(h:(Uf O H)[k]? =some o):∃s,O[k]? =some s∧o=Qkm O H s:=by unfold Uf at h;simp only[ZG,J]at h;obtain⟨s,hs,rfl⟩:=h;exact⟨s,hs,rfl⟩
def Jh(O:List Nat)(U:Env):Env:=fun k=>match O[k]? with
 |some s=>U s
 |none=>none
theorem Zf5{O:List Nat}{U:Env}{s t:Nat}{p:Place}(h:idx O 0 s=some t)(hp:U s=some p):Jh O U t=some p:=by obtain⟨j,rfl,hj⟩:=Qpq h;simp only[Jh,Nat.zero_add,hj];exact hp
theorem Mem.view{M:Qd}{U:Env}{H:List Qb}{w:World}(hm:Mem M U H w){O:List Nat}(hn:Qmx O=true):Mem M (Jh O U) (Uf O H) w:=by
 have hobj:∀(k:Nat) (o:Qb),(Uf O H)[k]? =some o->o.live=true->∃(s:Nat) (x:Qb),O[k]? =some s∧H[s]? =some x∧o=x.Ya (idx O 0)∧x.live=true:=fun k o ho hl=>by
  obtain⟨s,hs,rfl⟩:=Qzx ho;unfold Qkm at hl⊢;split at hl
  ·rename_i x hx;rw[Uj]at hl;exact⟨s,x,hs,hx,rfl,hl⟩
  ·cases hl
 refine⟨hm.imm,fun k o ho=>?_,fun k o p b ho hl hp hb=>?_,fun k k' o o' p p' b ho ho' hl hl' hp hp' hb hb'=>?_,fun k hk=>?_,fun k o p b ho hl hp hb=>?_⟩
 ·obtain⟨s,hs,rfl⟩:=Qzx ho;unfold Qkm;split
  ·rename_i x hx;exact(hm.own s x hx).Ya M.le_refl (fun s t p h hp=>Zf5 h hp) (by simp only[Jh,hs]) (fun _ _ _ _=>rfl)
  ·trivial
 ·obtain⟨s,x,h1,h2,_,h4⟩:=hobj k o ho hl;simp only[Jh,h1]at hp;exact hm.seps s x p b h2 h4 hp hb
 ·obtain⟨s,x,h1,h2,_,h4⟩:=hobj k o ho hl;obtain⟨s',x',k1,k2,_,k4⟩:=hobj k' o' ho' hl';simp only[Jh,h1]at hp;simp only[Jh,k1]at hp';have:=hm.diss s s' x x' p p' b h2 k2 h4 k4 hp hp' hb hb';subst this;exact Qvc hn k k' s h1 k1
 ·simp only[Jh];rw[QK (by simpa[Uf]using hk)]
 ·obtain⟨s,x,h1,h2,_,h4⟩:=hobj k o ho hl;simp only[Jh,h1]at hp;exact hm.lts s x p b h2 h4 hp hb
theorem Zwv{U:Env}{H:List Qb}{O:List Nat}{b:Nat}(h:J7 (Jh O U) (Uf O H) b):∃(k s:Nat) (x:Qb) (p:Place),O[k]? =some s∧H[s]? =some x∧x.live=true∧U s=some p∧p.has b:=by
 obtain⟨k,o,p,h1,h2,h3,h4⟩:=h;obtain⟨s,hs,rfl⟩:=Qzx h1;unfold Qkm at h2;split at h2
 ·rename_i x hx;rw[Uj]at h2;simp only[Jh,hs]at h3;exact⟨k,s,x,p,hs,hx,h2,h3,h4⟩
 ·cases h2
theorem Qt1{O:List Nat}{Hv:List Qb}:∀{ids:List Nat} {H:List Qb},(Kt O Hv ids H).length=H.length
 |[],H=>rfl
 |k::ids,H=>by
  simp only[Kt];rw[Qt1];split
  ·rfl
  ·split
   ·rfl
   ·simp
theorem Zdr{O:List Nat}{Hv:List Qb}:∀{ids:List Nat} {H:List Qb} {s:Nat} {o:Qb},(Kt O Hv ids H)[s]? =some o->
  (∃k∈ids,O[k]? =some s∧∃x,Hv[k]? =some x∧o=x.Ya fun k=>O[k]?)∨(H[s]? =some o∧∀k∈ids,O[k]? =some s->Hv[k]? =none)
 |[],H,s,o,h=>.inr ⟨h,fun k hk=>by cases hk⟩
 |k::ids,H,s,o,h=>by
  simp only[Kt]at h;rcases Zdr h with⟨k',h1,h2⟩|⟨h1,h2⟩
  ·exact .inl ⟨k',Q1 _ h1,h2⟩
  ·split at h1
   ·rename_i hk;exact .inr ⟨h1,fun k' hk' h3=>by
     rcases ZJ.1 hk' with rfl|hk'
     ·rw[hk]at h3;cases h3
     ·exact h2 k' hk' h3⟩
   ·rename_i t hk;split at h1
    ·rename_i hv;exact .inr ⟨h1,fun k' hk' h3=>by
      rcases ZJ.1 hk' with rfl|hk'
      ·exact hv
      ·exact h2 k' hk' h3⟩
    ·rename_i x hv;rw[List.getElem?_set]at h1;split at h1
     ·rename_i e;subst e;split at h1
      ·cases h1;exact .inl ⟨k,QQ,hk,x,hv,rfl⟩
      ·cases h1
     ·rename_i e;exact .inr ⟨h1,fun k' hk' h3=>by
       rcases ZJ.1 hk' with rfl|hk'
       ·rw[hk]at h3;cases h3;exact absurd rfl e
       ·exact h2 k' hk' h3⟩
theorem Qjt{O:List Nat}:∀{l:List Nat} {s:Nat},s∈through O l↔∃k∈l,O[k]? =some s
 |[],s=>by simp[through]
 |k::l,s=>by
  simp only[through];split
  ·rename_i t ht;rw[ZJ,Qjt];constructor
   ·rintro (rfl|⟨k',h1,h2⟩)
    ·exact⟨k,QQ,ht⟩
    ·exact⟨k',Q1 _ h1,h2⟩
   ·rintro ⟨k',h1,h2⟩
    rcases ZJ.1 h1 with rfl|h1
    ·rw[ht]at h2;cases h2;exact .inl rfl
    ·exact .inr ⟨k',h1,h2⟩
  ·rename_i ht;rw[Qjt];constructor
   ·rintro ⟨k',h1,h2⟩;exact⟨k',Q1 _ h1,h2⟩
   ·rintro ⟨k',h1,h2⟩
    rcases ZJ.1 h1 with rfl|h1
    ·rw[ht]at h2;cases h2
    ·exact⟨k',h1,h2⟩
theorem Yf0{T:TT}{n i:Nat}{x:SV}(h:(Qe6 T n)[i]? =some x):i<n∧x=(T.get i).getD .any:=by
 unfold Qe6 at h;simp only[ZG,J]at h;obtain⟨j,hj,rfl⟩:=h;by_cases hi:i<n
 ·rw[List.getElem?_range hi]at hj;cases hj;exact⟨hi,rfl⟩
 ·rw[QK (by simpa using hi)]at hj;cases hj
theorem Qzf(T:TT)(n:Nat):(Qe6 T n).length=n:=by simp[Qe6]
theorem Zqp{M:Qd}{U:Env}{H:List Qb}{w:World}{a:Act}(hm:Mem M U H w)(D ids mv:List Nat):Qpn D ids mv (Wd H) M U H a w:=
 ⟨rfl,fun t y _ hy=>(by rw[show(Wd H).T=TT.full 8 from rfl,TT.Qgk]at hy;cases hy),
  fun i o _ ho=>⟨(hm.own i o ho).forget M.le_refl (fun _ _ _ h=>h) rfl (fun _ _ _ _=>rfl),fun hl=>⟨o,ho,hl⟩⟩,fun i o _ ho hl=>⟨o,ho,hl⟩⟩
theorem Yp1{M:Qd}{U:Env}{H:List Qb}{w:World}{a:Act}{n:Nat}(hn:H.length=n):Qpn [] (ZN n) [] (Wd (Kw n)) M U H a w:=
 ⟨by simp[Wd,Kw,hn],fun t y _ hy=>(by rw[show(Wd (Kw n)).T=TT.full 8 from rfl,TT.Qgk]at hy;cases hy),
  fun i o hi ho=>absurd (QM.2 (by simpa[Wd,Kw]using(C.1 ho).1)) hi,
  fun i o hi ho hl=>absurd (QM.2 (by rw[<-hn];exact(C.1 ho).1)) hi⟩
def Qb4(vs:List Value):Act:={tmps:=vs.toArray,defers:=[]}
theorem Zdq(vs:List Value)(i:Nat)(v:Value)(h:vs[i]? =some v):(Qb4 vs).tmps.getD i undef=v:=by have:i<vs.length:=(C.1 h).1;simp[Qb4,Array.getD,this];rw[ZB this]at h;simpa using h
theorem Zfa{M:Qd}{U:Env}{H:List Qb}{w:World}{vs:List Value}{xs:List SV}{n:Nat}{tch fg:List Nat}(hm:Mem M U H w)(hr:Jr M U vs xs)(hn:n<=H.length):
  Good (fun t=>(Qb4 vs).tmps.getD t undef) vs.length M U {T:=Qdt (.full 8) 0 xs,H:=H,n0:=n,tch:=tch,fg:=fg,marks:=[],er:=[]} (Qb4 vs) w:=by
 refine⟨fun t x hx=>?_,by simp[Qb4],hm,⟨rfl,fun i d s h=>by simp[Qb4]at h⟩,fun m h=>(by cases h),hn,fun t _=>rfl⟩;rcases Qvo xs (.full 8) 0 t x (fun t x h=>by rw[TT.Qgk]at h;cases h) hx with h|⟨_,h⟩
 ·rw[TT.Qgk]at h;cases h
 ·rw[Nat.sub_zero]at h;have hlt:t<vs.length:=by rw[hr.1];exact(C.1 h).1
  rw[Zdq vs t vs[t] (ZB hlt)];exact hr.2 t vs[t] x (ZB hlt) h
theorem Zii{B:Nat->Value}{nt n:Nat}{M:Qd}{U:Env}{s:St}{vs:List Value}{w:World}(hg:Good B nt M U s (Qb4 vs) w)(hn:vs.length=n):Jr M U vs (Qe6 s.T n):=by
 refine⟨by rw[Qzf,hn],fun i v x hv hx=>?_⟩;obtain⟨hi,rfl⟩:=Yf0 hx;cases hT:s.T.get i with
 |none=>exact .any _
 |some y=>have:=hg.tm i y hT;rwa[Zdq vs i v hv]at this
theorem Zy6{M:Qd}{U:Env}{H:List Qb}{w:World}{n:Nat}(hn:H.length<=n):M.sealing U H n w=M:=by
 funext b;unfold Qd.sealing;cases M b with
 |some o=>rfl
 |none=>
  simp only;rw[if_neg]
  rintro ⟨s,o,p,h1,h2,_⟩
  have:=(C.1 h2).1;omega
theorem PX.Qu{cx:Cx}{g:Nat}{px:PX}(h:Zm cx g px):Qbu cx g px.sm:=by
 refine⟨h.fn,fun X args H k y hk=>?_⟩;have hk:(match Qqe args H px.locs []with
  |none=>none
  |some O=>gd (px.fit O args H) (match Qf1 px.τ [] (ZN px.no) [] px.no (Qzp O args H)with
   |none=>none
   |some x=>match px.code x with
    |none=>none
    |some y=>k ((X6 (px.res x y)).Ya fun k=>O[k]?) (Kt O (px.Kk x y) px.ids (Wu (through O px.mv) H)) (through O px.ids) (through O px.mv)))=some y:=hk
 split at hk
 ·cases hk
 ·rename_i O hσ;obtain⟨hfit,hk⟩:=Ym hk;split at hk
  ·cases hk
  ·rename_i x hx;split at hk
   ·cases hk
   ·rename_i z hz;simp only[PX.fit,ZA]at hfit;obtain⟨f1,f2,f3,f4,f5,⟨f6,f7⟩,f8⟩:=hfit;have hno:O.length=px.no:=ZI f1;have hnp:args.length=px.np:=ZI f4;have hlt:∀k s:Nat,O[k]? =some s->s<H.length:=fun k s h=>Qbn (ZU.1 f3 s (ZK h));obtain⟨r1,c,hc,r2⟩:=Qt5 hx;intro M U w vs hm hr;have hmv:=hm.view f2;have hrv:Jr M (Jh O U) vs (Uw (idx O 0) args):=by rw[Qry];refine⟨by rw[QJ];exact hr.1,fun i v x hv hx=>?_⟩;simp only[ZG,J]at hx;obtain⟨u,hu,rfl⟩:=hx;exact(hr.2 i v u hv hu).Ya M.le_refl fun s t p h hp=>Zf5 h hp
    have hlen:(Uf O H).length=px.no:=by simp[Uf,hno]
    have hbl:(Wd (Kw px.no)).H.length=px.no:=by simp[Wd,Kw]
    have hg:=Zfa (n:=O.length) (tch:=[]) (fg:=[]) hmv hrv (by rw[hlen,hno];exact ZO _);obtain⟨M2,ρ2,g1,g2,e1,e2⟩:=K4 (τ:=px.τ) (D:=[]) (ids:=ZN px.no) (mv:=[]) (b:=Wd (Kw px.no)) (H0:=Uf O H) (M0:=M) (ρ0:=Jh O U) (a0:=Qb4 vs) (w0:=w) (fun _ _=>rfl) (Yp1 hlen) hmv hg
     (Fr.refl ..) rfl f5 (by rw[hbl];exact r1) (by rw[hbl];exact r2) hc
    rw[hbl]at e1 e2;have e1:M2=M:=by rw[e1];exact Zy6 (by show(Uf O H).length<=px.no;rw[hlen];exact ZO _)
    have e2:ρ2=Jh O U:=by rw[e2,<-hlen];exact Zlg hmv
    subst e1;subst e2;have hm2:Mem M2 (Jh O U) (px.objs x) w:=g1.mem;have hol:(px.objs x).length=px.no:=by show(px.τ.st [] (ZN px.no) [] (Wd (Kw px.no)) x).H.length=_;rw[Qk.Qgj,Qji,Qhf,Qer,hbl]
    have hreps:Jr M2 (Jh O U) vs (px.args x):=Zii g1 (by rw[hr.1,hnp]);have hown:∀b,b<w.heap.size->J7 (Jh O U) (px.objs x) b->∃(k s:Nat) (x:Qb) (p:Place),O[k]? =some s∧H[s]? =some x∧x.live=true∧U s=some p∧p.has b:=fun b hb ho=>by
     rcases g2.own b ho with h1|h1
     ·omega
     ·exact Zwv h1
    refine(h.ok x z hz M2 (Jh O U) w vs hm2 hreps).mono ?_
    rintro e w' ⟨v,r,H',M',U',t,f,he,⟨rfl,rfl,ht,hf⟩,hs,hm',hfr⟩
    let ρ3:Env:=fun s=>match idx O 0 s with
     |some k=>U' k
     |none=>U s
    have hidx:∀k s:Nat,O[k]? =some s->idx O 0 s=some k:=fun k s hks=>by
     have key:∀(l:List Nat) (i j:Nat),l[j]? =some s->∃k,idx l i s=some k:=by
      intro l;induction l with
      |nil=>intro i j h;simp at h
      |cons a l ih=>
       intro i j h;simp only[idx];cases hb:ZX a s with
       |true=>exact⟨i,rfl⟩
       |false=>
        cases j with
        |zero=>simp at h;subst h;rw[Nat.beq_refl]at hb;cases hb
        |succ j=>exact ih (i+1) j (by simpa using h)
     obtain⟨k',hk'⟩:=key O 0 k hks;obtain⟨j,e,hj⟩:=Qpq hk';have e:k'=j:=by omega
     subst e;rw[hk',Qvc f2 k' k s hj hks]
    have hρ3:∀k s:Nat,O[k]? =some s->ρ3 s=U' k:=fun k s hks=>by simp only[ρ3,hidx k s hks]
    have hρ3':∀s:Nat,(∀k:Nat,O[k]? ≠some s)->ρ3 s=U s:=fun s hns=>by
     have:idx O 0 s=none:=by
      cases hi:idx O 0 s with
      |none=>rfl
      |some k=>obtain⟨j,_,hj⟩:=Qpq hi;exact absurd hj (hns j)
     simp only[ρ3,this]
    have hstay:∀k s:Nat,O[k]? =some s->k∉px.mv->ρ3 s=U s:=fun k s hks hkm=>by
     rw[hρ3 k s hks];have hklt:k<(px.objs x).length:=by rw[hol,<-hno];exact(C.1 hks).1
     rw[hfr.stay k hklt fun h=>hkm (hf k h)];simp only[Jh,hks]
    have hback:∀s t p,(fun k=>O[k]?) s=some t->U' s=some p->ρ3 t=some p:=fun k s p hks hp=>by rw[hρ3 k s hks];exact hp
    have hmvi:∀k,k∈px.mv->k∈px.ids:=fun k hk=>Qcp f6 hk;have hkeep:∀k s:Nat,O[k]? =some s->k∉px.ids->∀o,H[s]? =some o->o.live=true->(∃o':Qb,(px.Kk x z)[k]? =some o'∧o'.live=true)∧∀p,U s=some p->U' k=some p∧∀b,p.has b->w'.heap[b]? =w.heap[b]? :=fun k s hks hki o ho hl=>by
     have hkn:k<px.no:=by rw[<-hno];exact(C.1 hks).1
     have hcell:k∈px.τ.cells.filterMap Qq.id? :=by have:=ZU.1 f8 k (QM.2 hkn);simp only[QT,List.contains_eq_mem,decide_eq_true_eq]at this;exact this.resolve_left hki
     have hko:k<(px.objs x).length:=by rw[hol];exact hkn
     obtain⟨ok,hok⟩:∃ok,(px.objs x)[k]? =some ok:=⟨_,ZB hko⟩;have hokl:ok.live=true:=by
      have hok':(px.τ.st [] (ZN px.no) [] (Wd (Kw px.no)) x).H[k]? =some ok:=hok;rw[Qk.Qgj]at hok';rcases Qkw hok' with⟨c',z',hi,hid,rfl⟩|⟨hni,_⟩
      ·cases c' with
       |slot=>cases hid
       |_=>rfl
      ·exact absurd hcell hni
     obtain⟨a1,a2⟩:=hfr.keep k ok hko (fun h=>hki (ht k h)) hok hokl;exact⟨a1,fun p hp=>a2 p (by simp only[Jh,hks];exact hp)⟩
    have hother:∀s o p b,H[s]? =some o->o.live=true->U s=some p->p.has b->(∀k:Nat,O[k]? ≠some s)->¬J7 (Jh O U) (px.objs x) b:=fun s o p b ho hl hp hb hns hw=>by obtain⟨k,s',x',p',h1,h2,h3,h4,h5⟩:=hown b (hm.J0 ho hl hp hb) hw;have:=hm.diss s' s x' o p' p b h2 ho h3 hl h4 hp h5 hb;subst this;exact hns k h1
    have hsame:∀s o,H[s]? =some o->o.live=true->(∀k:Nat,O[k]? =some s->k∉px.ids)->∀p,U s=some p->ρ3 s=some p∧∀b,p.has b->w'.heap[b]? =w.heap[b]? :=fun s o ho hl hni p hp=>by
     by_cases hin:∃k:Nat,O[k]? =some s
     ·obtain⟨k,hks⟩:=hin;obtain⟨_,a2⟩:=hkeep k s hks (hni k hks) o ho hl;obtain⟨b1,b2⟩:=a2 p hp;exact⟨by rw[hρ3 k s hks];exact b1,b2⟩
     ·have hns:∀k:Nat,O[k]? ≠some s:=fun k h=>hin ⟨k,h⟩;exact⟨by rw[hρ3' s hns];exact hp,fun b hb=>hfr.same b (hm.J0 ho hl hp hb) (hother s o p b ho hl hp hb hns)⟩
    have hsplit:∀s o,(Kt O (px.Kk x z) px.ids (Wu (through O px.mv) H))[s]? =some o->
      (∃k∈px.ids,O[k]? =some s∧∃q,(px.Kk x z)[k]? =some q∧o=q.Ya fun k=>O[k]?)∨
      (∃q,H[s]? =some q∧(o=q.forget (through O px.mv)∨(through O px.mv=[]∧o=q))∧∀k:Nat,O[k]? =some s->k∉px.ids):=fun s o ho=>by
     rcases Zdr ho with h1|⟨h1,h2⟩
     ·exact .inl h1
     ·obtain⟨q,q1,q2⟩:=Qxe h1;refine .inr ⟨q,q1,q2,fun k hks hki=>?_⟩;have hkn:k<px.no:=Qbn (ZU.1 f7 k hki);have:k<(px.Kk x z).length:=by show k<(px.ω.st [] px.ids px.mv (Wd (px.objs x)) z).H.length;rw[Qk.Qgj,Qji,Qhf,Qer];show k<(px.objs x).length;rw[hol];exact hkn
      have hn:=h2 k hki hks;rw[ZB this]at hn;cases hn
    have hlf:∀(q o:Qb),(o=q.forget (through O px.mv)∨(through O px.mv=[]∧o=q))->o.live=q.live:=fun q o h=>by
     rcases h with rfl|⟨_,rfl⟩
     ·exact Vv _ q
     ·rfl
    have hbut:Env.Qah (through O px.mv) U ρ3:=fun s p hs hp=>by
     have hs:s∉through O px.mv:=by simpa using hs
     by_cases hin:∃k:Nat,O[k]? =some s
     ·obtain⟨k,hks⟩:=hin;rw[hstay k s hks fun hkm=>hs (Qjt.2 ⟨k,hkm,hks⟩)];exact hp
     ·rw[hρ3' s fun k h=>hin ⟨k,h⟩];exact hp
    have hmem3:Mem M' ρ3 (Kt O (px.Kk x z) px.ids (Wu (through O px.mv) H)) w':=by
     refine⟨hm'.imm,fun s o ho=>?_,fun s o p b ho hl hp hb=>?_,fun s s' o o' p p' b ho ho' hl hl' hp hp' hb hb'=>?_,fun s hs=>?_,fun s o p b ho hl hp hb=>?_⟩
     ·rcases hsplit s o ho with⟨k,hki,hks,q,hq,rfl⟩|⟨q,hq,hqo,hni⟩
      ·exact(hm'.own k q hq).Ya M'.le_refl hback (hρ3 k s hks) (fun _ _ _ _=>rfl)
      ·by_cases hl:q.live=true
       ·have hρs:ρ3 s=U s:=by
         by_cases hin:∃k:Nat,O[k]? =some s
         ·obtain⟨k,hks⟩:=hin;exact hstay k s hks fun hkm=>hni k hks (hmvi k hkm)
         ·exact hρ3' s fun k h=>hin ⟨k,h⟩
        have:=(hm.own s q hq).forget (d:=through O px.mv) hfr.imm hbut hρs fun p b hp hb=>(hsame s q hq hl hni p hp).2 b hb;rcases hqo with rfl|⟨e,rfl⟩
        ·exact this
        ·rwa[e,Qb.Uc]at this
       ·have e0:=Qcc hl;subst e0;rcases hqo with rfl|⟨_,rfl⟩<;>trivial
     ·rcases hsplit s o ho with⟨k,hki,hks,q,hq,rfl⟩|⟨q,hq,hqo,hni⟩
      ·rw[Uj]at hl;rw[hρ3 k s hks]at hp;exact hm'.seps k q p b hq hl hp hb
      ·rw[hlf q o hqo]at hl;by_cases hin:∃k:Nat,O[k]? =some s
       ·obtain⟨k,hks⟩:=hin;obtain⟨⟨o',a1,a2⟩,_⟩:=hkeep k s hks (hni k hks) q hq hl;rw[hρ3 k s hks]at hp;exact hm'.seps k o' p b a1 a2 hp hb
       ·have hns:∀k:Nat,O[k]? ≠some s:=fun k h=>hin ⟨k,h⟩;rw[hρ3' s hns]at hp;cases e:M' b with
        |none=>rfl
        |some ob=>
         rcases hfr.new b ob (hm.seps s q p b hq hl hp hb) e with h1|h1
         ·have:=hm.J0 hq hl hp hb;omega
         ·exact absurd h1 (hother s q p b hq hl hp hb hns)
     ·
      have htw:∀s o p,(Kt O (px.Kk x z) px.ids (Wu (through O px.mv) H))[s]? =some o->o.live=true->ρ3 s=some p->
        (∃k q,O[k]? =some s∧(px.Kk x z)[k]? =some q∧q.live=true∧U' k=some p)∨((∀k:Nat,O[k]? ≠some s)∧∃q,H[s]? =some q∧q.live=true∧U s=some p):=fun s o p ho hl hp=>by
       rcases hsplit s o ho with⟨k,hki,hks,q,hq,rfl⟩|⟨q,hq,hqo,hni⟩
       ·rw[Uj]at hl;rw[hρ3 k s hks]at hp;exact .inl ⟨k,q,hks,hq,hl,hp⟩
       ·rw[hlf q o hqo]at hl;by_cases hin:∃k:Nat,O[k]? =some s
        ·obtain⟨k,hks⟩:=hin;obtain⟨⟨o',a1,a2⟩,_⟩:=hkeep k s hks (hni k hks) q hq hl;rw[hρ3 k s hks]at hp;exact .inl ⟨k,o',hks,a1,a2,hp⟩
        ·have hns:∀k:Nat,O[k]? ≠some s:=fun k h=>hin ⟨k,h⟩;rw[hρ3' s hns]at hp;exact .inr ⟨hns,q,hq,hl,hp⟩
      have hcross:∀(k s':Nat) (q:Qb) (q':Qb) (p p':Place),(px.Kk x z)[k]? =some q->q.live=true->U' k=some p->(∀k:Nat,O[k]? ≠some s')->H[s']? =some q'->q'.live=true->U s'=some p'->p.has b->p'.has b->False:=fun k s' q q' p p' h1 h2 h3 h4 h5 h6 h7 h8 h8'=>by
       have hlt2:=hm.J0 h5 h6 h7 h8';rcases hfr.own b ⟨k,q,p,h1,h2,h3,h8⟩with h9|h9
       ·omega
       ·exact hother s' q' p' b h5 h6 h7 h8' h4 h9
      rcases htw s o p ho hl hp with⟨k,q,a1,a2,a3,a4⟩|⟨a1,q,a2,a3,a4⟩
      ·rcases htw s' o' p' ho' hl' hp' with⟨k',q',b1,b2,b3,b4⟩|⟨b1,q',b2,b3,b4⟩
       ·have:=hm'.diss k k' q q' p p' b a2 b2 a3 b3 a4 b4 hb hb';subst this;rw[a1]at b1;cases b1;rfl
       ·exact(hcross k s' q q' p p' a2 a3 a4 b1 b2 b3 b4 hb hb').elim
      ·rcases htw s' o' p' ho' hl' hp' with⟨k',q',b1,b2,b3,b4⟩|⟨b1,q',b2,b3,b4⟩
       ·exact(hcross k' s q' q p' p b2 b3 b4 a1 a2 a3 a4 hb' hb).elim
       ·exact hm.diss s s' q q' p p' b a2 b2 a3 b3 a4 b4 hb hb'
     ·rw[Qt1,Qer]at hs;have hns:∀k:Nat,O[k]? ≠some s:=fun k h=>by have:=hlt k s h;omega
      rw[hρ3' s hns];exact hm.fresh s hs
     ·rcases hsplit s o ho with⟨k,hki,hks,q,hq,rfl⟩|⟨q,hq,hqo,hni⟩
      ·rw[Uj]at hl;rw[hρ3 k s hks]at hp;exact hm'.lts k q p b hq hl hp hb
      ·rw[hlf q o hqo]at hl;by_cases hin:∃k:Nat,O[k]? =some s
       ·obtain⟨k,hks⟩:=hin;obtain⟨⟨o',a1,a2⟩,_⟩:=hkeep k s hks (hni k hks) q hq hl;rw[hρ3 k s hks]at hp;exact hm'.lts k o' p b a1 a2 hp hb
       ·have hns:∀k:Nat,O[k]? ≠some s:=fun k h=>hin ⟨k,h⟩;rw[hρ3' s hns]at hp;exact ZS (hm.lts s q p b hq hl hp hb) hfr.grow
    refine⟨v,_,_,M',ρ3,_,_,he,hk,hs.Ya M'.le_refl hback,hmem3,?_⟩;have hup:∀b,b<w.heap.size->J7 (Jh O U) (px.objs x) b->J7 U H b:=fun b hb ho=>by obtain⟨k,s,x',p,h1,h2,h3,h4,h5⟩:=hown b hb ho;exact⟨s,x',p,h2,h3,h4,h5⟩
    refine⟨hfr.imm,fun b ob h0 h1=>?_,fun b hb=>?_,fun b hb hno2=>hfr.same b hb fun ho=>hno2 (hup b hb ho),hfr.grow,fun s o hsn hst ho hl=>?_,fun s hsn hsm=>?_,hfr.io⟩
    ·rcases hfr.new b ob h0 h1 with h2|h2
     ·exact .inl h2
     ·by_cases hb:b<w.heap.size
      ·exact .inr (hup b hb h2)
      ·exact .inl (by omega)
    ·obtain⟨s,o,p,h1,h2,h3,h4⟩:=hb;rcases hsplit s o h1 with⟨k,hki,hks,q,hq,rfl⟩|⟨q,hq,hqo,hni⟩
     ·rw[Uj]at h2;rw[hρ3 k s hks]at h3;rcases hfr.own b ⟨k,q,p,hq,h2,h3,h4⟩with h5|h5
      ·exact .inl h5
      ·by_cases hb:b<w.heap.size
       ·exact .inr (hup b hb h5)
       ·exact .inl (by omega)
     ·rw[hlf q o hqo]at h2;refine .inr ⟨s,q,p,hq,h2,?_,h4⟩;by_cases hin:∃k:Nat,O[k]? =some s
      ·obtain⟨k,hks⟩:=hin;rw[hstay k s hks fun hkm=>hni k hks (hmvi k hkm)]at h3;exact h3
      ·rw[hρ3' s fun k h=>hin ⟨k,h⟩]at h3;exact h3
    ·have hni:∀k:Nat,O[k]? =some s->k∉px.ids:=fun k hks hki=>hst (Qjt.2 ⟨k,hki,hks⟩);refine⟨?_,hsame s o ho hl hni⟩;have hlen2:s<(Kt O (px.Kk x z) px.ids (Wu (through O px.mv) H)).length:=by rw[Qt1,Qer];exact hsn
     obtain⟨o2,ho2⟩:∃o2,(Kt O (px.Kk x z) px.ids (Wu (through O px.mv) H))[s]? =some o2:=⟨_,ZB hlen2⟩;refine⟨o2,ho2,?_⟩;rcases hsplit s o2 ho2 with⟨k,hki,hks,_⟩|⟨q,hq,hqo,_⟩
     ·exact absurd hki (hni k hks)
     ·rw[ho]at hq;cases hq;rw[hlf o o2 hqo];exact hl
    ·by_cases hin:∃k:Nat,O[k]? =some s
     ·obtain⟨k,hks⟩:=hin;exact hstay k s hks fun hkm=>hsm (Qjt.2 ⟨k,hkm,hks⟩)
     ·exact hρ3' s fun k h=>hin ⟨k,h⟩
def Zch(cx:Cx)(fn:Func)(px:PX):KX px.ω.El:=fun e s=>
 gd (Qki e&&(s.marks.isEmpty||QP px.no s.H.length)) (match shut s.marks s.H with
  |none=>none
  |some H'=>Qdv cx {s with H:=H',marks:=[]} fn.results.toList fun l=>
   gd (ZX l.length px.nr) (Qf1 px.ω [] px.ids px.mv px.no {T:=Qdt (.full 8) 0 l,H:=H',n0:=px.no,tch:=s.tch,fg:=s.fg,marks:=[],er:=[]}))
def Qr7(cx:Cx)(lx:Lx)(n:Nat)(an:Zi)(fn:Func)(c:Code)(px:PX)(x:px.τ.El):Option px.ω.El:=
 Jg cx lx n px.ω.El (Yi.eqv px.ω.cells) an true fn.ntmps c (.entry (px.args x) (px.objs x)) (Zch cx fn px)
theorem Yia{cx:Cx}{fn:Func}{px:PX}{e:Exit}{s:St}{y:px.ω.El}(h:Zch cx fn px e s=some y):
  (e = .normal ∨ e = .ret) ∧ (px.no <= s.H.length ∨ s.marks = []) ∧ ∃ H',shut s.marks s.H = some H' ∧ U8 cx { s with H := H',marks := [] } fn.results.toList fun l =>
   l.length=px.nr∧Qf1 px.ω [] px.ids px.mv px.no {T:=Qdt (.full 8) 0 l,H:=H',n0:=px.no,tch:=s.tch,fg:=s.fg,marks:=[],er:=[]}=some y:=by
 obtain⟨h1,h⟩:=Ym h;simp only[ZA,QT,List.isEmpty_iff]at h1;refine⟨Qqt h1.1,h1.2.symm.imp (fun h=>ZM h) id,?_⟩;split at h
 ·cases h
 ·rename_i H' hs;refine⟨H',hs,Qc7 _ _ _ (fun l hl=>?_) (Qgh _ _ h)⟩;obtain⟨h2,hl⟩:=Ym hl;exact⟨ZI h2,hl⟩
theorem PX.Qtg(px:PX)(x:px.τ.El):(px.objs x).length=px.no:=by show(px.τ.st [] (ZN px.no) [] (Wd (Kw px.no)) x).H.length=_;rw[Qk.Qgj,Qji,Qhf,Qer];simp[Wd,Kw]
theorem Yov{M:Qd}{U:Env}{v:Value}{l:List SV}(h:Qf M U v (X6 l)):∃vs:List Value,Jr M U vs l∧∀(M2:Qd) (ρ2:Env) (l2:List SV),l2.length=l.length->Jr M2 ρ2 vs l2->Qf M2 ρ2 v (X6 l2):=by
 match l,h with
 |[x],h=>
  refine⟨[v],⟨rfl,fun i u y hu hy=>?_⟩,fun M2 ρ2 l2 hl hr=>?_⟩
  ·cases i with
   |zero=>simp at hu hy;subst hu;subst hy;exact h
   |succ i=>simp at hu
  ·match l2,hl,hr with
   |[y],_,hr=>exact hr.2 0 v y rfl rfl
 |[],h=>
  have h:Qf M U v (.tup []):=h;cases h with
  |tup cs _ hl hr=>
   refine⟨cs.toList,⟨by simpa using hl,fun i u y hu hy=>by simp at hy⟩,fun M2 ρ2 l2 hl2 hr2=>?_⟩;match l2,hl2 with
   |[],_=>exact .tup cs _ hl fun i v x hv hx=>by simp at hx
 |a::b::l,h=>
  have h:Qf M U v (.tup (a::b::l)):=h;cases h with
  |tup cs _ hl hr=>
   refine⟨cs.toList,⟨by simpa using hl,fun i u y hu hy=>hr i u y (by rw[<-ZT];exact hu) hy⟩,fun M2 ρ2 l2 hl2 hr2=>?_⟩;match l2,hl2,hr2 with
   |x::y::l2,hl2,hr2=>exact .tup cs _ (by rw[hl,hl2]) fun i v z hv hz=>hr2.2 i v z (by rw[ZT];exact hv) hz
theorem Zm.Yg{cx:Cx}(hcx:cx.Ok){lx:Lx}(hlx:lx.Ok cx){n g:Nat}{an:Zi}{fn:Func}{c:Code}{px:PX}(hf:cx.fns.lookup g=some fn)(hb:fn.body=some c)
  (hcode:∀x y,px.code x=some y->Qr7 cx lx n an fn c px x=some y) (hn:QP px.np fn.ntmps=true) (hcov:(px.ω.W7 px.ids&&subset px.mv px.ids)=true):Zm cx g px:=by
 rw[ZA]at hcov;refine⟨⟨fn,hf⟩,fun x y hy=>?_⟩;have hw:=(Qra hcx hlx n).1 _ _ (Yi.eqv_ok px.ω.cells) none an true fn.ntmps c _ _ y (fun _=>rfl) (hcode x y hy);have hcall:Xw cx.P g (px.args x) (px.objs x) fun r H' t f=>∃l,r=X6 l∧l.length=px.nr∧Qf1 px.ω [] px.ids px.mv px.no {T:=Qdt (.full 8) 0 l,H:=H',n0:=px.no,tch:=t,fg:=f,marks:=[],er:=[]}=some y:=by refine Qn7 hcx hf hb (by rw[show(px.args x).length=px.np from Qzf _ _];exact ZM hn) (hw.mono fun e s hs=>?_);obtain⟨h1,h1',H',h2,h3⟩:=Yia hs;exact⟨h1,h1'.imp (fun h=>by rw[px.Qtg];exact h) id,H',h2,Qc7 _ _ _ (fun l h4=>⟨l,rfl,h4⟩) h3⟩
 intro M U w vs hm hr;refine(hcall M U w vs hm hr).mono ?_
 rintro e w' ⟨v,r,H',M',U',t,f,he,⟨l,rfl,hl,hrd⟩,hs,hm',hfr⟩
 obtain⟨us,hus,hback⟩:=Yov hs;obtain⟨r1,c',hc,r2⟩:=Qt5 hrd;have hno:px.no<=H'.length:=by simp only[St.reads,ZA]at r1;exact ZM r1.2.2.2.2
 have hg:=Zfa (n:=px.no) (tch:=t) (fg:=f) hm' hus hno;have hbl:(Wd (px.objs x)).H.length=px.no:=px.Qtg x;obtain⟨M2,ρ2,g1,g2,_,_⟩:=K4 (τ:=px.ω) (D:=[]) (ids:=px.ids) (mv:=px.mv) (b:=Wd (px.objs x)) (H0:=px.objs x) (M0:=M) (ρ0:=U) (a0:=Qb4 us) (w0:=w) (fun _ _=>rfl) (Zqp hm _ _ _) hm hg
  (by rw[hbl];rw[px.Qtg]at hfr;exact hfr) hcov.2 hcov.1 (by rw[hbl];exact r1) (by rw[hbl];exact r2) hc
 rw[hbl]at g2;have hus2:us.length=px.nr:=by rw[hus.1,hl]
 refine⟨v,_,_,M2,ρ2,px.ids,px.mv,he,⟨rfl,rfl,fun i h=>h,fun i h=>h⟩,hback M2 ρ2 _ (by rw[hl];exact Qzf _ _) (Zii g1 hus2),g1.mem,?_⟩;rw[px.Qtg];exact g2
structure PF where
 ats:List Qe
 ty:Nat
 row:List Ty
 code:Qt ats->Option (List (Qj row))
structure Wi (cx:Cx) (g:Nat) (pf:PF):Prop where
 fn:∃fn,cx.fns.lookup g=some fn
 ok:∀a l,pf.code a=some l->Xw cx.P g (Yu pf.ats a) [] fun r H' t f=>r=.sl 0 pf.row.length 0 l.length∧H'=[.tvec pf.ty pf.row l]∧t=[]∧f=[]
def PF.sm(pf:PF):Sm where
 pre:=fun args H=>(rdL [] 0 pf.ats args).isSome
 run:=fun X args H k=>match rdL [] 0 pf.ats args with
  |some p=>gd p.1 (match pf.code p.2 with
   |some l=>k (.sl H.length pf.row.length 0 l.length) (H++[.tvec pf.ty pf.row l]) [] []
   |none=>none)
  |none=>none
theorem PF.Qu{cx:Cx}{g:Nat}{pf:PF}(h:Wi cx g pf):Qbu cx g pf.sm:=by
 refine⟨h.fn,fun X args H k y hk=>?_⟩;have hk:(match rdL [] 0 pf.ats args with
  |some p=>gd p.1 (match pf.code p.2 with
   |some l=>k (.sl H.length pf.row.length 0 l.length) (H++[.tvec pf.ty pf.row l]) [] []
   |none=>none)
  |none=>none)=some y:=hk
 split at hk
 ·rename_i p hrd;obtain⟨hc,hk⟩:=Ym hk;split at hk
  ·rename_i z hz;intro M U w vs hm hr;obtain⟨l1,l2⟩:=Zg2 (M:=M) (U:=U) (ρ2:=Wa) pf.ats args p.1 p.2 hrd hc;refine(h.ok p.2 z hz M Wa w vs (Qlr hm.imm) ⟨by rw[hr.1,l1],fun i v x hv hx=>?_⟩).mono ?_
   ·obtain⟨x',hx'⟩:∃x',args[i]? =some x':=by
     have:i<args.length:=by rw[<-l1];exact(C.1 hx).1
     exact⟨_,ZB this⟩
    exact l2 i v x x' hx hx' (hr.2 i v x' hv hx')
   ·rintro e w' ⟨v,r,H',M',U',t,f,he,⟨rfl,rfl,rfl,rfl⟩,hs,hm',hf⟩
    have hsame:∀b,b<w.heap.size->w'.heap[b]? =w.heap[b]? :=fun b hb=>hf.same b hb Qcf;have hnewb:∀q b,U' 0=some q->q.has b->w.heap.size<=b:=fun q b hq hb=>by
     rcases hf.own b ⟨0,_,q,rfl,rfl,hq,hb⟩with h1|h1
     ·exact h1
     ·exact absurd h1 Qcf
    have hle:U.le (U.set H.length (U' 0)):=fun s p hp=>by
     have:s≠H.length:=fun e=>by subst e;rw[hm.fresh _ (ZO _)]at hp;cases hp
     rw[Env.Xj _ _ this];exact hp
    have hobj:∀s o,(H++[Qb.tvec pf.ty pf.row z])[s]? =some o->(s<H.length∧H[s]? =some o)∨(s=H.length∧o=.tvec pf.ty pf.row z):=fun s o ho=>by
     rw[Q2]at ho;split at ho
     ·exact .inl ⟨by assumption,ho⟩
     ·rename_i hlt;have:s-H.length=0:=by have:=(C.1 ho).1;simp at this;omega
      rw[this]at ho;simp at ho;exact .inr ⟨by omega,ho.symm⟩
    have hset:∀s,s<H.length->(U.set H.length (U' 0)) s=U s:=fun s hs=>Env.Xj _ _ (by omega);refine⟨v,_,_,M',U.set H.length (U' 0),[],[],he,hk,?_,?_,?_⟩
    ·generalize z.length=n at hs;cases hs with
     |sl _ _ _ _ c k q hq hkk hcc hnn h6=>exact .sl _ _ _ _ c k q (by rw[Env.set_self];exact hq) hkk hcc hnn h6
     |slz _ _ _ a=>exact .slz _ _ _ _
    ·refine⟨hm'.imm,fun s o ho=>?_,fun s o q b ho hl hq hb=>?_,fun s s1 o o1 q q1 b ho ho1 hl hl1 hq hq1 hb hb'=>?_,fun s hs=>?_,fun s o q b ho hl hq hb=>?_⟩
     ·rcases hobj s o ho with⟨hs,ho⟩|⟨rfl,rfl⟩
      ·by_cases hl:o.live=true
       ·exact(hm.own s o ho).mono hf.imm hle (hset s hs) fun p b hp hb=>hsame _ (hm.J0 ho hl hp hb)
       ·rw[Qcc hl];trivial
      ·have h0:=hm'.own 0 _ rfl;rcases h0 with⟨h1,h2⟩|⟨q,h1,h2⟩
       ·exact .inl ⟨by rw[Env.set_self];exact h1,h2⟩
       ·refine .inr ⟨q,by rw[Env.set_self];exact h1,?_⟩;obtain⟨cs,a1,a2,a3,a4,a5,a6⟩:=h2.ex;refine⟨cs,a1,a2,a3,a4,fun i j x v hx hv=>?_,a6⟩;obtain⟨b1,b2,b3⟩:=a5 i j x v hx hv;refine⟨b1,b2,?_⟩;unfold Ys at hx;simp only[J]at hx;obtain⟨pp,_,rfl⟩:=hx;cases b3 with
        |pv b3=>exact .pv b3
     ·rcases hobj s o ho with⟨hs,ho⟩|⟨rfl,rfl⟩
      ·rw[hset s hs]at hq;cases e:M' b with
       |none=>rfl
       |some ob=>
        rcases hf.new b ob (hm.seps s o q b ho hl hq hb) e with h1|h1
        ·have:=hm.J0 ho hl hq hb;omega
        ·exact absurd h1 Qcf
      ·rw[Env.set_self]at hq;exact hm'.seps 0 _ q b rfl rfl hq hb
     ·rcases hobj s o ho with⟨hs,ho⟩|⟨rfl,rfl⟩<;>rcases hobj s1 o1 ho1 with⟨hs1,ho1⟩|⟨rfl,rfl⟩
      ·rw[hset s hs]at hq;rw[hset s1 hs1]at hq1;exact hm.diss s s1 o o1 q q1 b ho ho1 hl hl1 hq hq1 hb hb'
      ·rw[hset s hs]at hq;rw[Env.set_self]at hq1;have h1:=hm.J0 ho hl hq hb;have h2:=hnewb q1 b hq1 hb';omega
      ·rw[Env.set_self]at hq;rw[hset s1 hs1]at hq1;have h1:=hm.J0 ho1 hl1 hq1 hb';have h2:=hnewb q b hq hb;omega
      ·rfl
     ·have hs':H.length+1<=s:=by simpa using hs
      rw[Env.Xj _ _ (by omega)];exact hm.fresh s (by omega)
     ·rcases hobj s o ho with⟨hs,ho⟩|⟨rfl,rfl⟩
      ·rw[hset s hs]at hq;exact ZS (hm.lts s o q b ho hl hq hb) hf.grow
      ·rw[Env.set_self]at hq;exact hm'.lts 0 _ q b rfl rfl hq hb
    ·refine⟨hf.imm,fun b o a c=>(hf.new b o a c).imp id fun h=>absurd h Qcf,fun b hb=>?_,fun b hb _=>hsame b hb,hf.grow,fun s o hs _ ho hl=>⟨⟨o,by rw[List.getElem?_append_left hs];exact ho,hl⟩,fun p hp=>⟨hle s p hp,fun b hb=>hsame _ (hm.J0 ho hl hp hb)⟩⟩,fun s hs _=>hset s hs,hf.io⟩;obtain⟨s,o,q,h1,h2,h3,h4⟩:=hb;rcases hobj s o h1 with⟨hs,ho⟩|⟨rfl,rfl⟩
     ·rw[hset s hs]at h3;exact .inr ⟨s,o,q,ho,h2,h3,h4⟩
     ·rw[Env.set_self]at h3;exact .inl (hnewb q b h3 h4)
  ·cases hk
 ·cases hk
def Qx1(ty:Nat)(row:List Ty)(H:List Qb)(r:SV):Option (List (Qj row)):=match r with
 |.pv (.lit (.slice none 0 0))=>some []
 |.sl k sz 0 n=>match H[k]? with
  |some (.tvec ty' row' l)=>match ZX ty' ty&&ZX sz row.length with
   |true=>match K5 row' row l with
    |some l=>gd (decide (n=l.length)) (some l)
    |none=>none
   |false=>none
  |_=>none
 |_=>none
def Qt0(ty:Nat)(row:List Ty)(H:List Qb):List SV->Option (List (Qj row))
 |[r]=>Qx1 ty row H r
 |_=>none
def Zu6(cx:Cx)(fn:Func)(ty:Nat)(row:List Ty):KX (List (Qj row)):=fun e s=>
 gd (Qki e) (match shut s.marks s.H with
  |none=>none
  |some H'=>Qdv cx {s with H:=H',marks:=[]} fn.results.toList fun l=>Qt0 ty row H' l)
def codeF(cx:Cx)(lx:Lx)(n:Nat)(an:Zi)(fn:Func)(c:Code)(ats:List Qe)(ty:Nat)(row:List Ty)(a:Qt ats):Option (List (Qj row)):=
 Jg cx lx n (List (Qj row)) (Wp (Qj.eqv row)) an true fn.ntmps c (.entry (Yu ats a) []) (Zu6 cx fn ty row)
theorem Wi.Yg{cx:Cx}(hcx:cx.Ok){lx:Lx}(hlx:lx.Ok cx){n g:Nat}{an:Zi}{fn:Func}{c:Code}{pf:PF}(hf:cx.fns.lookup g=some fn)(hb:fn.body=some c)
  (hcode:∀a y,pf.code a=some y->codeF cx lx n an fn c pf.ats pf.ty pf.row a=some y) (hn:QP pf.ats.length fn.ntmps=true):Wi cx g pf:=by
 refine⟨⟨fn,hf⟩,fun a y hy=>?_⟩;have hlen:∀(l:List Qe) (x:Qt l),(Yu l x).length=l.length:=by
  intro l;induction l with
  |nil=>intro _;rfl
  |cons a l ih=>
   cases l with
   |nil=>intro _;rfl
   |cons b l=>intro x;simp only[Yu,QF,ih x.2]
 have hw:=(Qra hcx hlx n).1 _ _ (Qec (Qj.eqv_ok pf.row)) none an true fn.ntmps c _ _ y (fun _=>rfl) (hcode a y hy);have hcall:Xw cx.P g (Yu pf.ats a) [] fun r H' t f=>∃l,r=X6 l∧Qt0 pf.ty pf.row H' l=some y:=by
  refine Qn7 hcx hf hb (by rw[hlen];exact ZM hn) (hw.mono fun e s hs=>?_);obtain⟨h1,h⟩:=Ym hs;split at h
  ·cases h
  ·rename_i H' hsh;exact⟨Qqt h1,.inl (ZZ _),H',hsh,Qc7 _ _ _ (fun l h4=>⟨l,rfl,h4⟩) (Qgh _ _ h)⟩
 intro M U w vs hm hr;refine(hcall M U w vs hm hr).mono ?_
 rintro e w' ⟨v,r,H',M',U',t,f,he,⟨l,rfl,hrd⟩,hs,hm',hfr⟩
 obtain⟨x,rfl⟩:∃x,l=[x]:=by
  unfold Qt0 at hrd;split at hrd
  ·exact⟨_,rfl⟩
  ·cases hrd
 replace hs:Qf M' U' v x:=hs;replace hrd:Qx1 pf.ty pf.row H' x=some y:=hrd;have key:∃q:Option Place,Qf M' (fun s=>bif ZX s 0 then q else none) v (.sl 0 pf.row.length 0 y.length)∧Q9 M' (fun s=>bif ZX s 0 then q else none) w' 0 (.tvec pf.ty pf.row y)∧
   (∀p,q=some p->p.subs=[]∧M' p.block=none∧(w.heap.size<=p.block∨J7 U [] p.block)):=by
  unfold Qx1 at hrd;split at hrd
  ·cases hrd;have:=hs.Zt;subst this;exact⟨none,.slz _ _ _ _,.inl ⟨rfl,rfl⟩,fun p h=>by cases h⟩
  ·rename_i k sz n;split at hrd
   ·rename_i ty' row' l0 ho;split at hrd
    ·rename_i hc;rw[ZA]at hc;have e1:=ZI hc.1;have e2:=ZI hc.2;subst e1;subst e2;split at hrd
     ·rename_i l1 hcast;obtain⟨hn2,hrd⟩:=Ym hrd;have hn2:=of_decide_eq_true hn2;have hrd:=Option.some.inj hrd;subst hrd;obtain⟨e3,e4⟩:=Qa9 hcast;subst e3;have e4:l1=l0:=e4;subst e4;subst hn2;have hown:=hm'.own k _ ho;refine⟨(U' k).map fun p=>⟨p.block,p.cap,[]⟩,?_,?_,fun p hp=>by obtain⟨p0,hp0,rfl⟩:=J.1 hp;exact⟨rfl,hm'.sep k _ p0 ho rfl hp0,hfr.own p0.block ⟨k,_,p0,ho,rfl,hp0,p0.self⟩⟩⟩
      ·generalize l1.length=m at hs;cases hs with
       |sl _ _ _ _ c k2 q hq hkk hcc hnn h6=>exact .sl _ _ _ _ c k2 ⟨q.block,q.cap,[]⟩ (by show(U' k).map _=_;rw[hq];rfl) hkk hcc hnn h6
       |slz _ _ _ a=>exact .slz _ _ _ _
      ·rcases hown with⟨h1,h2⟩|⟨q,h1,h2⟩
       ·exact .inl ⟨by show(U' k).map _=_;rw[h1];rfl,h2⟩
       ·refine .inr ⟨⟨q.block,q.cap,[]⟩,by show(U' k).map _=_;rw[h1];rfl,?_⟩;obtain⟨cs,a1,a2,a3,a4,a5,a6⟩:=h2.ex;refine⟨cs,a1,a2,a3,a4,fun i j x v hx hv=>?_,a6⟩;obtain⟨b1,b2,b3⟩:=a5 i j x v hx hv;refine⟨b1,b2,?_⟩;unfold Ys at hx;simp only[J]at hx;obtain⟨pp,_,rfl⟩:=hx;cases b3 with
        |pv b3=>exact .pv b3
     ·cases hrd
    ·cases hrd
   ·cases hrd
  ·cases hrd
 obtain⟨q,k1,k2,k3⟩:=key;have hone:∀(s:Nat) (o:Qb),([Qb.tvec pf.ty pf.row y]:List Qb)[s]? =some o->s=0∧o=.tvec pf.ty pf.row y:=fun s o h=>by
  match s,h with
  |0,h=>simp at h;exact⟨rfl,h.symm⟩
  |s+1,h=>simp at h
 refine⟨v,_,_,M',fun s=>bif ZX s 0 then q else none,[],[],he,⟨rfl,rfl,rfl,rfl⟩,k1,?_,?_⟩
 ·refine⟨hm'.imm,fun s o ho=>?_,fun s o p b ho hl hp hb=>?_,fun s s1 o o1 p p1 b ho ho1 _ _ _ _ _ _=>?_,fun s hs=>?_,fun s o p b ho hl hp hb=>?_⟩
  ·obtain⟨rfl,rfl⟩:=hone s o ho;exact k2
  ·obtain⟨rfl,rfl⟩:=hone s o ho;obtain⟨e1,e2,e3⟩:=k3 p hp;rcases hb with rfl|hb
   ·exact e2
   ·rw[e1]at hb;cases hb
  ·rw[(hone s o ho).1,(hone s1 o1 ho1).1]
  ·have hs:1<=s:=by simpa using hs
   have:ZX s 0=false:=Y5 (by omega);simp only[this,cond_false]
  ·obtain⟨rfl,rfl⟩:=hone s o ho;rw[(k3 p hp).1]at hb;cases hb
 ·refine⟨hfr.imm,hfr.new,fun b hb=>?_,hfr.same,hfr.grow,fun s o hs=>absurd hs (QB s),fun s hs=>absurd hs (QB s),hfr.io⟩;obtain⟨s,o,p,h1,h2,h3,h4⟩:=hb;obtain⟨rfl,rfl⟩:=hone s o h1;obtain⟨e1,e2,e3⟩:=k3 p h3;rcases h4 with rfl|h4
  ·exact e3
  ·rw[e1]at h4;cases h4
noncomputable def pcT(cx:Cx)(lx:Lx)(an:Zi)(fn:Func)(c:Code)(ats rts:List Qe):PC:={ats:=ats,rts:=rts,code:=Z6 cx lx 1000 an fn c ats rts}
theorem Zou{cx:Cx}(hcx:cx.Ok){lx:Lx}(hlx:lx.Ok cx){g:Nat}{an:Zi}{fn:Func}{c:Code}{ats rts:List Qe}(hf:cx.fns.lookup g=some fn)(hb:fn.body=some c)
  (hn:QP ats.length fn.ntmps=true):Qg cx g (pcT cx lx an fn c ats rts):=Qg.Yg hcx hlx (n:=1000) hf hb (fun _ _ h=>h) hn
def pxB(np:Nat)(locs:List Loc)(τ:Qk)(nr:Nat)(ω:Qk)(ids mv:List Nat):PX:={np:=np,locs:=locs,τ:=τ,nr:=nr,ω:=ω,ids:=ids,mv:=mv,code:=fun _=>none}
noncomputable def pxT(cx:Cx)(lx:Lx)(an:Zi)(fn:Func)(c:Code)(p:PX):PX:={p with code:=Qr7 cx lx 1000 an fn c p}
theorem Zfh{cx:Cx}(hcx:cx.Ok){lx:Lx}(hlx:lx.Ok cx){g:Nat}{an:Zi}{fn:Func}{c:Code}{p:PX}(hf:cx.fns.lookup g=some fn)(hb:fn.body=some c)
  (hn:QP p.np fn.ntmps=true) (hcov:(p.ω.W7 p.ids&&subset p.mv p.ids)=true):Zm cx g (pxT cx lx an fn c p):=Zm.Yg hcx hlx (n:=1000) hf hb (fun _ _ h=>h) hn hcov
theorem Zm.cast{cx:Cx}{g:Nat}{p q:PX}(h:p=q)(hq:Zm cx g q):Zm cx g p:=by rw[h];exact hq
def TI.bare(i:TI):TI:={i with row:=none}
def Cx.bare(cx:Cx):Cx:={P:=cx.P,tab:=cx.tab.map fun x=>(x.1,x.2.bare),fns:=cx.fns}
theorem Cx.Y4{cx:Cx}(h:cx.Ok):cx.bare.Ok:=by
 refine⟨⟨?_,?_,?_,?_,?_⟩,h.fns,h.mix⟩
 ·simpa[Cx.bare,QH,ZR,TI.bare]using h.tab.und
 ·simpa[Cx.bare,QH,ZR,TI.bare]using h.tab.siz
 ·simpa[Cx.bare,QH,ZR,TI.bare]using h.tab.byt
 ·simpa[Cx.bare,QH,ZR,TI.bare]using h.tab.zer
 ·simpa[Cx.bare,List.all_map,ZR,TI.bare]using h.tab.one
theorem Qg.bare{cx:Cx}{g:Nat}{pc:PC}(h:Qg cx g pc):Qg cx.bare g pc:=⟨h.fn,h.ok⟩
theorem Qg.full{cx:Cx}{g:Nat}{pc:PC}(h:Qg cx.bare g pc):Qg cx g pc:=⟨h.fn,h.ok⟩
theorem Zm.bare{cx:Cx}{g:Nat}{px:PX}(h:Zm cx g px):Zm cx.bare g px:=⟨h.fn,h.ok⟩
def PC.at(pc:PC)(a0:Qt pc.ats)(y0:Qt pc.rts):PC:={ats:=pc.ats,rts:=pc.rts,code:=fun a=>bif Qt.eqv pc.ats a a0 then some y0 else pc.code a}
theorem Qg.at{cx:Cx}{g:Nat}{pc:PC}(h:Qg cx g pc){a0:Qt pc.ats}{y0:Qt pc.rts}(he:pc.code a0=some y0):Qg cx g (pc.at a0 y0):=
 ⟨h.fn,fun a y hy=>by
  have hy:(bif Qt.eqv pc.ats a a0 then some y0 else pc.code a)=some y:=hy;cases e:Qt.eqv pc.ats a a0 with
  |true=>rw[e]at hy;exact h.ok a y (by rw[Qt.eqv_ok _ _ _ e,he];exact hy)
  |false=>rw[e]at hy;exact h.ok a y hy⟩
def one{ats rts:List Qe}(a0:Qt ats)(y0:Qt rts)(a:Qt ats):Option (Qt rts):=bif Qt.eqv ats a a0 then some y0 else none
theorem one_some{ats rts:List Qe}{a0 a:Qt ats}{y0 y:Qt rts}(h:one a0 y0 a=some y):a=a0∧y=y0:=by
 unfold one at h;cases e:Qt.eqv ats a a0 with
 |true=>rw[e]at h;cases h;exact⟨Qt.eqv_ok _ _ _ e,rfl⟩
 |false=>rw[e]at h;cases h
def PC.one(pc:PC)(a0:Qt pc.ats)(y0:Qt pc.rts):PC:={ats:=pc.ats,rts:=pc.rts,code:=fun a=>Go.Sx.one a0 y0 a}
theorem Qg.one{cx:Cx}{g:Nat}{pc:PC}(h:Qg cx g pc)(a0:Qt pc.ats)(y0:Qt pc.rts)(he:pc.code a0=some y0):Qg cx g (pc.one a0 y0):=
 ⟨h.fn,fun a y hy=>by obtain⟨h1,h2⟩:=one_some (show Go.Sx.one a0 y0 a=some y from hy);rw[h1,h2];exact h.ok _ _ he⟩
end Go.Sx
section
namespace Go.Sx
open Go
def V7(w:World):Qd:=fun b=>w.heap[b]?
theorem Yoe{w:World}{a:Addr}{v:Value}(h:w.cell? a=some v):a.spot=none∧(V7 w).cell a.block a.off=some v:=by
 unfold World.cell? at h;unfold Qd.cell V7;split at h
 ·rename_i c t f e;rw[e];split at h
  ·cases h
  ·rename_i hs;exact⟨by cases hh:a.spot<;>simp_all,h⟩
 ·cases h
def Yqr:IntKind->Nat
 |.i8=>1
 |.u8=>1
 |.i16=>2
 |.u16=>2
 |.i32=>4
 |.u32=>4
 |_=>8
def Ty.bytes:Ty->Nat
 |.int k=>Yqr k
 |.bool=>1
 |.str=>16
 |.seq _=>24
def Qt8:List Ty->Nat
 |[]=>0
 |t::ts=>t.bytes+Qt8 ts
def Zbb:List Ty->Bool
 |[]=>false
 |t::ts=>QP 8 t.bytes||Zbb ts
def Qzk(r:List Ty):Nat:=bif Zbb r then(Qt8 r+7)/8*8 else Qt8 r
def Zot(k:IntKind)(n:Int):Prop:=k.min<=n∧n<=k.max
def Zh9(s:ByteArray):Prop:=s.size<=140737488351232
def Yah{α:Type}(b:Nat)(f:α->Prop)(l:List α):Prop:=l.length*b<=140737488351232∧∀x∈l,f x
mutual
def Ty.ok:(t:Ty)->t.El->Prop
 |.int k=>Zot k
 |.bool=>fun _=>True
 |.str=>Zh9
 |.seq row=>Yah (Qzk row) (Qj.ok row)
def Qj.ok:(ts:List Ty)->Qj ts->Prop
 |[]=>fun _=>True
 |[t]=>t.ok
 |t::t'::ts=>fun x=>t.ok x.1∧Qj.ok (t'::ts) x.2
end
def Qj.app:(r1 r2:List Ty)->Qj r1->Qj r2->Qj (r1++r2)
 |[],_,_,y=>y
 |[_],[],x,_=>x
 |[_],_::_,x,y=>(x,y)
 |_::t'::ts,r2,x,y=>(x.1,Qj.app (t'::ts) r2 x.2 y)
theorem Za6:∀(r1 r2:List Ty) (x:Qj r1) (y:Qj r2),Zs (r1++r2) (Qj.app r1 r2 x y)=Zs r1 x++Zs r2 y
 |[],_,_,_=>rfl
 |[_],[],x,_=>rfl
 |[_],_::_,x,y=>rfl
 |t::t'::ts,r2,x,y=>by have:=Za6 (t'::ts) r2 x.2 y;show t.pv x.1::Zs (t'::ts++r2) (Qj.app (t'::ts) r2 x.2 y)=t.pv x.1::(Zs (t'::ts) x.2++Zs r2 y);rw[this]
theorem Zaq:∀(r1 r2:List Ty) (x:Qj r1) (y:Qj r2),Qj.ok r1 x->Qj.ok r2 y->Qj.ok (r1++r2) (Qj.app r1 r2 x y)
 |[],_,_,_,_,h=>h
 |[_],[],x,_,h,_=>h
 |[t],t'::ts,x,y,h,k=>by exact⟨h,k⟩
 |t::t'::ts,r2,x,y,h,k=>by exact⟨h.1,Zaq (t'::ts) r2 x.2 y h.2 k⟩
structure Jv (w:World) (cs:List Value) (row:List Ty) (x:Qj row):Prop where
 len:cs.length=row.length
 one:∀v∈cs,Wv v=true
 rep:∀(j:Nat) (v:Value) (p:PV),cs[j]? =some v->(Zs row x)[j]? =some p->Z4 (V7 w) v p
 ok:Qj.ok row x
theorem Jv.nil(w:World):Jv w [] [] ():=⟨rfl,fun v h=>(by cases h),fun j v p h=>(by simp at h),trivial⟩
theorem Jv.single{w:World}{v:Value}{t:Ty}{x:t.El}(h1:Wv v=true)(h2:Z4 (V7 w) v (t.pv x))(h3:t.ok x):Jv w [v] [t] x:=by
 refine⟨rfl,fun u hu=>?_,fun j u p hu hp=>?_,h3⟩
 ·rw[QR]at hu;rw[hu];exact h1
 ·cases j with
  |zero=>simp only[ZF,ZH]at hu;simp only[Zs,ZF,ZH]at hp;subst hu;subst hp;exact h2
  |succ j=>simp at hu
theorem Jv.app{w:World}{c1 c2:List Value}{r1 r2:List Ty}{x:Qj r1}{y:Qj r2}(h:Jv w c1 r1 x)(k:Jv w c2 r2 y):Jv w (c1++c2) (r1++r2) (Qj.app r1 r2 x y):=by
 refine⟨by simp[h.len,k.len],fun v hv=>?_,fun j v p hv hp=>?_,Zaq _ _ _ _ h.ok k.ok⟩
 ·rcases ZP.1 hv with hv|hv
  ·exact h.one v hv
  ·exact k.one v hv
 ·rw[Za6]at hp;rw[Q2]at hv hp;rw[V3,<-h.len]at hp;split at hv
  ·rename_i hj;rw[if_pos hj]at hp;exact h.rep j v p hv hp
  ·rename_i hj;rw[if_neg hj]at hp;exact k.rep _ v p hv hp
def Qkp(P:Program)(k:TypeId->Option (List Ty)):List Field->Nat->Option (List Ty)
 |[],_=>some []
 |f::fs,off=>match decide (f.offset=off)with
  |false=>none
  |true=>match k f.type with
   |none=>none
   |some r=>match decide (r.length=P.cellsOf f.type)with
    |false=>none
    |true=>match Qkp P k fs (off+r.length)with
     |none=>none
     |some rs=>some (r++rs)
def Qhr(r:List Ty):Nat->List Ty
 |0=>[]
 |n+1=>r++Qhr r n
def Qaq(P:Program):Nat->TypeId->Option (List Ty)
 |0,_=>none
 |n+1,t=>match P.underlying t with
  |some .bool=>some [.bool]
  |some (.int k)=>some [.int k]
  |some .string=>some [.str]
  |some (.slice e)=>match Qaq P n e with
   |none=>none
   |some r=>match decide (r.length=P.cellsOf e)&&(decide (0<r.length)&&decide (Qzk r<=P.bytesOf e))with
    |true=>some [.seq r]
    |false=>none
  |some (.struct fs)=>match Qkp P (Qaq P n) fs.toList 0 with
   |none=>none
   |some r=>match decide (r.length=P.cellsOf t)with
    |true=>some r
    |false=>none
  |some (.array m e)=>match Qaq P n e with
   |none=>none
   |some r=>match decide (r.length=P.cellsOf e)&&decide (m*r.length=P.cellsOf t)with
    |true=>some (Qhr r m)
    |false=>none
  |_=>none
theorem mapM_some{α β:Type}{f:α->Option β}:∀{l:List α} {r:List β},l.mapM f=some r->r.length=l.length∧∀(i:Nat) (x:α),l[i]? =some x->∃y,r[i]? =some y∧f x=some y
 |[],r,h=>by simp at h;subst h;simp
 |a::l,r,h=>by
  rw[QU]at h;cases ha:f a with
  |none=>rw[ha]at h;cases h
  |some b=>
   cases hl:l.mapM f with
   |none=>rw[ha,hl]at h;cases h
   |some bs=>
    rw[ha,hl]at h;cases h;obtain⟨g1,g2⟩:=mapM_some hl;refine⟨by simp[g1],fun i x hx=>?_⟩;cases i with
    |zero=>simp at hx;subst hx;exact⟨b,rfl,ha⟩
    |succ i=>simp at hx;simpa using g2 i x hx
theorem Zy9{w:World}{a:Addr}{n:Nat}{cs:List Value}(h:w.cells? 0 a n=some cs):cs.length=n∧∀j,j<n->∃v,cs[j]? =some v∧w.cell? (a.add j)=some v:=by unfold World.cells? at h;rw[if_pos (ZZ _)]at h;obtain⟨h1,h2⟩:=mapM_some h;exact⟨by simpa using h1,fun j hj=>h2 j j (by simp[hj])⟩
end Go.Sx
end
section
namespace Go.Sx
open Go
variable {H:Type} {enc:TypeId×Value->H} {P:Program} {w:World} {sp:Nat->Bool} {held:Bool}
theorem Zgn{α:Type}{Q:Nat->α->Prop}:∀(n:Nat),(∀i,i<n->∃x,Q i x)->∃l:List α,l.length=n∧∀(i:Nat) (x:α),l[i]? =some x->Q i x
 |0,_=>⟨[],rfl,fun i x h=>by simp at h⟩
 |n+1,h=>by
  obtain⟨l,h1,h2⟩:=Zgn n fun i hi=>h i (by omega);obtain⟨x,hx⟩:=h n (by omega);refine⟨l++[x],by simp[h1],fun i y hy=>?_⟩;rw[Q2]at hy;split at hy
  ·exact h2 i y hy
  ·rename_i hi;have:i=n:=by have:=(C.1 hy).1;simp at this;omega
   subst this;simp[h1]at hy;rw[<-hy];exact hx
theorem Qyx{e:TypeId}:∀{l:List (DataW H)} {d:DataW H} {x:Nat},d∈l->x∈d.weights P e->x∈ZV P e l
 |[],d,x,h,_=>by cases h
 |y::l,d,x,h,hx=>by
  simp only[ZV,ZP];rcases ZJ.1 h with rfl|h
  ·exact .inl hx
  ·exact .inr (Qyx h hx)
theorem Zkj(a:Addr)(n:Nat):(a.add n).block=a.block:=by unfold Addr.add;split<;>rfl
theorem Zds(a:Addr)(n:Nat):(a.add n).off=a.off+n:=by
 unfold Addr.add;split
 ·rename_i h;subst h;rfl
 ·rfl
theorem Za1{cs:List Value}{fuel:Nat}{k:TypeId->Option (List Ty)}
  (ih:∀(t:TypeId) (cs:List Value) (d:DataW H) (ps:List MemPlace) (row:List Ty),ZL enc P w 0 sp held fuel t cs=some (d,ps)->k t=some row->(∀x∈d.weights P t,x<=reachBytes)->∃x:Qj row,Jv w cs row x):
  ∀(fs:List Field) (off:Nat) (row:List Ty) (xs:List (DataW H×List MemPlace)),
   fs.mapM (fun f=>ZL enc P w 0 sp held fuel f.type ((cs.drop f.offset).take (P.cellsOf f.type)))=some xs->Qkp P k fs off=some row->
   (∀x∈ZE P (fs.map (·.type)) (xs.map (·.1)),x<=reachBytes)->∃x:Qj row,Jv w ((cs.drop off).take row.length) row x
 |[],off,row,xs,h,hr,hw=>by simp only[Qkp,ZH]at hr;subst hr;exact⟨(),by simpa using Jv.nil w⟩
 |f::fs,off,row,xs,h,hr,hw=>by
  simp only[Qkp]at hr;split at hr
  ·cases hr
  ·rename_i e1;split at hr
   ·cases hr
   ·rename_i r e2;split at hr
    ·cases hr
    ·rename_i e3;split at hr
     ·cases hr
     ·rename_i rs e4;cases hr;have e1:=of_decide_eq_true e1;have e3:=of_decide_eq_true e3;rw[QU]at h;cases hf:ZL enc P w 0 sp held fuel f.type ((cs.drop f.offset).take (P.cellsOf f.type))with
      |none=>rw[hf]at h;cases h
      |some p=>
       cases hl:fs.mapM (fun f=>ZL enc P w 0 sp held fuel f.type ((cs.drop f.offset).take (P.cellsOf f.type)))with
       |none=>rw[hf,hl]at h;cases h
       |some ps=>rw[hf,hl]at h;cases h;simp only[List.map_cons,ZE,ZP]at hw;obtain⟨x,hx⟩:=ih f.type _ p.1 p.2 r hf e2 fun y hy=>hw y (.inl hy);obtain⟨y,hy⟩:=Za1 ih fs (off+r.length) rs ps hl e4 fun y hy=>hw y (.inr hy);refine⟨Qj.app r rs x y,?_⟩;have:=hx.app hy;rw[e1,<-e3]at this;rw[List.length_append,QX,QV];exact this
theorem Zjl{cs:List Value}{r:List Ty}{m:Nat}(h:∀i,i<m->∃x:Qj r,Jv w ((cs.drop (i*r.length)).take r.length) r x):
  ∀k,k<=m->∃x:Qj (Qhr r k),Jv w ((cs.drop ((m-k)*r.length)).take (k*r.length)) (Qhr r k) x
 |0,_=>⟨(show Qj (Qhr r 0)from()),by show Jv w ((cs.drop _).take (0*r.length)) [] ();rw[Nat.zero_mul,List.take_zero];exact Jv.nil w⟩
 |k+1,hk=>by
  obtain⟨y,hy⟩:=Zjl h k (by omega);obtain⟨x,hx⟩:=h (m-(k+1)) (by omega);refine⟨Qj.app r (Qhr r k) x y,?_⟩;have:=hx.app hy;have e:(m-k)*r.length=(m-(k+1))*r.length+r.length:=by rw[show m-k=m-(k+1)+1 by omega,Nat.succ_mul]
  rw[e,<-QV]at this;rw[show(k+1)*r.length=r.length+k*r.length by rw[Nat.succ_mul];omega,QX];exact this
theorem Yla{r:List Ty}{c cap:Nat}{a:Addr}{n:Nat}(hc:r.length=c)(h0:0<r.length)(hn:n<=cap)(l:List (Qj r))(hl:l.length=n)
  (h:∀(i:Nat) (x:Qj r),l[i]? =some x->∃cs,w.cells? 0 (a.add (i*c)) c=some cs∧Jv w cs r x):Z4 (V7 w) (.slice (some a) n cap) (.tsl r l):=by
 refine .tsl r l ?_;by_cases hz:n=0
 ·subst hz;have:l=[]:=List.eq_nil_of_length_eq_zero hl;subst this;exact .remp a cap _
 ·have cell:∀(i j:Nat) (x:Qj r),l[i]? =some x->j<c->∃v,(V7 w).cell a.block (a.off+i*c+j)=some v∧Wv v=true∧a.add (i*c)=a.add (i*c)∧(∀p,(Zs r x)[j]? =some p->Z4 (V7 w) v p)∧((a.add (i*c)).add j).spot=none:=fun i j x hx hj=>by obtain⟨cs,h1,h2⟩:=h i x hx;obtain⟨g1,g2⟩:=Zy9 h1;obtain⟨v,hv,hcell⟩:=g2 j hj;obtain⟨k1,k2⟩:=Yoe hcell;rw[Zkj,Zkj,Zds,Zds]at k2;exact⟨v,k2,h2.one v (ZK hv),rfl,fun p hp=>h2.rep j v p hv hp,k1⟩
  have hspot:a.spot=none:=by obtain⟨x,hx⟩:∃x,l[0]? =some x:=⟨l[0]'(by omega),by simp⟩;obtain⟨v,_,_,_,_,k⟩:=cell 0 0 x hx (by omega);simpa[Addr.add]using k
  obtain⟨b,off,s⟩:=a;cases hspot;refine .rsl b off cap r.length n (Qw r l) (by simp[hl]) hn (fun i j hi hj=>?_) (fun i row j p v hrow hp hv=>?_) (fun i row hrow=>?_)
  ·obtain⟨x,hx⟩:∃x,l[i]? =some x:=⟨l[i]'(by simpa using hi),by simp⟩;obtain⟨v,k1,k2,_⟩:=cell i j x hx (by omega);rw[<-hc]at k1;exact⟨v,k1,k2⟩
  ·simp only[ZG,J]at hrow;obtain⟨x,hx,rfl⟩:=hrow;have hj:j<c:=by have:=(C.1 hp).1;rw[V3]at this;omega
   obtain⟨v',k1,k2,_,k3,_⟩:=cell i j x hx hj;rw[<-hc]at k1;rw[k1]at hv;cases hv;exact k3 p hp
  ·simp only[ZG,J]at hrow;obtain⟨x,hx,rfl⟩:=hrow;rw[V3];exact ZO _
theorem Qr0:∀(fuel n:Nat) (t:TypeId) (cs:List Value) (d:DataW H) (ps:List MemPlace) (row:List Ty),ZL enc P w 0 sp held fuel t cs=some (d,ps)->Qaq P n t=some row->
  (∀x∈d.weights P t,x<=reachBytes)->∃x:Qj row,Jv w cs row x
 |0,n,t,cs,d,ps,row,h,hr,hw=>by simp[ZL]at h
 |fuel+1,0,t,cs,d,ps,row,h,hr,hw=>by simp[Qaq]at hr
 |fuel+1,n+1,t,cs,d,ps,row,h,hr,hw=>by
  have ih:=Qr0 fuel n;unfold Qaq at hr;split at hr
  ·rename_i hu;cases hr;obtain⟨b,rfl,rfl⟩:∃b,cs=[.bool b]∧d=.lit (.bool b):=by unfold ZL at h;rw[hu]at h;split at h<;>first|(cases h;done)|(rename_i heq;cases heq;done)|(cases h;exact⟨_,rfl,rfl⟩)
   exact⟨b,.single rfl (.lit _) trivial⟩
  ·rename_i k hu;cases hr;obtain⟨v,rfl,hv⟩:∃v:Int,cs=[.int k v]∧(k.min<=v∧v<=k.max):=by
    unfold ZL at h;rw[hu]at h;split at h<;>first|(cases h;done)|(rename_i heq;cases heq;done)|skip
    ·rename_i heq;cases heq;split at h
     ·rename_i hk;obtain⟨rfl,hwf⟩:=hk;simp only[Lit.wf,ZA,decide_eq_true_eq]at hwf;exact⟨_,rfl,hwf⟩
     ·cases h
   exact⟨v,.single rfl (.lit _) hv⟩
  ·rename_i hu;cases hr;obtain⟨b,rfl,rfl⟩:∃b,cs=[.string b]∧d=.lit (.string b.data.toList):=by
    unfold ZL at h;rw[hu]at h;split at h<;>first|(cases h;done)|(rename_i heq;cases heq;done)|skip
    ·split at h
     ·cases h;exact⟨_,rfl,rfl⟩
     ·cases h
   refine⟨b,.single rfl (.lit _) ?_⟩;have:=hw b.data.toList.length (by simp[ZY]);simp only[reachBytes]at this;simpa[Zh9,Ty.ok]using this
  ·rename_i e hu;split at hr
   ·cases hr
   ·rename_i r hrk;split at hr
    ·rename_i hcond;cases hr;simp only[ZA,decide_eq_true_eq]at hcond;obtain⟨hc,h0,hby⟩:=hcond;have fin:∀(v:Value) (l:List (Qj r)),Z4 (V7 w) v (.tsl r l)->Wv v=true->l.length*Qzk r<=140737488351232->(∀x∈l,Qj.ok r x)->∃x:Qj [.seq r],Jv w [v] [.seq r] x:=
      fun v l hp h1 h2 h3=>⟨l,.single h1 hp ⟨h2,h3⟩⟩
     unfold ZL at h;rw[hu]at h;split at h<;>first|(cases h;done)|(rename_i heq;cases heq;done)|skip
     ·exact fin _ [] (.tsl r [] (.rnil _)) rfl (by simp) (fun x hx=>by cases hx)
     ·rename_i a len cap heq;cases heq;simp only[]at h;split at h
      ·rename_i hlc;obtain⟨elems,he,h⟩:=QG.1 h;obtain⟨rest,hre,h⟩:=J.1 h;cases h;obtain⟨g1,g2⟩:=mapM_some he;have hwt:∀x∈ZV P e (elems.map (·.1)),x<=reachBytes:=fun x hx=>hw x (by simp only[ZY,hu,ZJ,ZP];exact .inr (.inl hx));have hlen:elems.length=len:=by simpa using g1
       have elt:∀i,i<len->∃x:Qj r,∃cs,w.cells? 0 (a.add (i*P.cellsOf e)) (P.cellsOf e)=some cs∧Jv w cs r x:=fun i hi=>by obtain⟨y,hy,hf⟩:=g2 i i (by simp[hi]);obtain⟨cs,h1,h2⟩:=QG.1 hf;obtain⟨x,hx⟩:=ih e cs y.1 y.2 r h2 hrk fun z hz=>hwt z (Qyx (List.mem_map.2 ⟨y,ZK hy,rfl⟩) hz);exact⟨x,cs,h1,hx⟩
       obtain⟨l,hl,hq⟩:=Zgn len elt;have hbound:=hw ((elems.map (·.1)).length+(rest.map (·.1)).length |> (·*P.bytesOf e)) (by simp only[ZY,hu,ZJ];exact .inl trivial);simp only[QJ,reachBytes,hlen]at hbound;refine fin _ l (Yla hc h0 hlc.2.1 l hl hq) rfl ?_ (fun x hx=>?_)
       ·rw[hl];refine Nat.le_trans (Nat.mul_le_mul_left _ hby) (Nat.le_trans (Nat.mul_le_mul_right _ (Nat.le_add_right _ _)) hbound)
       ·obtain⟨i,hi⟩:=List.getElem?_of_mem hx;obtain⟨cs,_,hrd⟩:=hq i x hi;exact hrd.ok
      ·cases h
    ·cases hr
  ·rename_i fs hu;split at hr
   ·cases hr
   ·rename_i r hrk;split at hr
    ·rename_i hcond;cases hr;have hcond:=of_decide_eq_true hcond;unfold ZL at h;rw[hu]at h;split at h<;>first|(cases h;done)|(rename_i heq;cases heq;done)|skip
     ·rename_i heq;cases heq;split at h
      ·rename_i hl;obtain⟨xs,hx,h⟩:=J.1 h;cases h;obtain⟨x,hrd⟩:=Za1 ih fs.toList 0 row xs hx hrk fun y hy=>hw y (by simp only[ZY,hu];exact hy);refine⟨x,?_⟩;rw[QW,QI (by omega)]at hrd;exact hrd
      ·cases h
     ·exact(‹∀fs':Array Field,some (TypeDesc.struct fs)=some (TypeDesc.struct fs')->False› fs rfl).elim
    ·cases hr
  ·rename_i m e hu;split at hr
   ·cases hr
   ·rename_i r hrk;split at hr
    ·rename_i hcond;cases hr;simp only[ZA,decide_eq_true_eq]at hcond;unfold ZL at h;rw[hu]at h;split at h<;>first|(cases h;done)|(rename_i heq;cases heq;done)|skip
     ·rename_i heq;cases heq;split at h
      ·rename_i hl;obtain⟨xs,hx,h⟩:=J.1 h;cases h;obtain⟨g1,g2⟩:=mapM_some hx;have hwt:∀x∈ZV P e (xs.map (·.1)),x<=reachBytes:=fun x hx=>hw x (by simp only[ZY,hu];exact hx);obtain⟨x,hrd⟩:=Zjl (w:=w) (cs:=_) (r:=r) (m:=m) (fun i hi=>by obtain⟨y,hy,hf⟩:=g2 i i (by simp[hi]);rw[<-hcond.1]at hf;exact ih e _ y.1 y.2 r hf hrk fun z hz=>hwt z (Qyx (List.mem_map.2 ⟨y,ZK hy,rfl⟩) hz)) m (ZO _);refine⟨x,?_⟩;rw[Nat.sub_self,Nat.zero_mul,QW,QI (by omega)]at hrd;exact hrd
      ·cases h
     ·exact(‹∀(n:Nat) (e':TypeId),some (TypeDesc.array m e)=some (TypeDesc.array n e')->False› m e rfl).elim
    ·cases hr
  ·cases hr
end Go.Sx
end
section
namespace Go.Sx
open Go
def Qe.ok:(a:Qe)->a.El->Prop
 |.val t=>t.ok
 |.agg row=>Qj.ok row
def Qt.ok:(l:List Qe)->Qt l->Prop
 |[]=>fun _=>True
 |[a]=>a.ok
 |a::a'::l=>fun x=>a.ok x.1∧Qt.ok (a'::l) x.2
def Qyk(P:Program)(t:TypeId):Option Qe:=match P.underlying t with
 |some (.struct _)=>match Qaq P 12 t with
  |some r=>some (.agg r)
  |none=>none
 |some (.array _ _)=>match Qaq P 12 t with
  |some r=>some (.agg r)
  |none=>none
 |some _=>match Qaq P 12 t with
  |some [ty]=>some (.val ty)
  |_=>none
 |none=>none
def Qey(P:Program):List TypeId->Option (List Qe)
 |[]=>some []
 |t::ts=>match Qyk P t with
  |none=>none
  |some a=>match Qey P ts with
   |none=>none
   |some l=>some (a::l)
theorem Zdw{w:World}{cs:List Value}{row:List Ty}{x:Qj row}(h:Jv w cs row x):Qf (V7 w) Wa (.agg cs.toArray) (SV.X7 ((Zs row x).map .pv)):=by refine Qf.X7 (by rw[h.len,QJ,V3]) fun i v y hv hy=>?_;simp only[ZG,J]at hy;obtain⟨p,hp,rfl⟩:=hy;exact .pv (h.rep i v p hv hp)
section
variable {H:Type} {enc:TypeId×Value->H} {P:Program} {w:World} {sp:Nat->Bool} {held:Bool} {r:Reach} {b0:Nat}
theorem Ygf{t:TypeId}{v:Value}{u:TypeDesc}(hu:P.underlying t=some u)(hs:u=.bool∨(∃k,u=.int k)∨u=.string∨∃e,u=.slice e)(hval:Value.okWide P w r b0 t v):v.cells.toList=[v]:=by
 cases v with
 |agg cs=>rcases hs with rfl|⟨k,rfl⟩|rfl|⟨e,rfl⟩<;>simp[Value.okWide,Cell.okWide,Cell.ok,hu]at hval
 |_=>rfl
theorem Zun{t:TypeId}{a:Qe}{v:Value}{d:DataW H}{ps:List MemPlace}(hk:Qyk P t=some a)(hval:Value.okWide P w r b0 t v)(hd:DataW.Trod enc P w 0 sp held t v d ps)(hw:∀x∈d.weights P t,x<=reachBytes):
  ∃x:a.El,Qf (V7 w) Wa v (a.sv x)∧a.ok x:=by
 obtain⟨fuel,hf⟩:=hd;unfold Qyk at hk;split at hk
 ·rename_i fs hu;split at hk
  ·rename_i row hrow;cases hk;obtain⟨x,hx⟩:=Qr0 fuel 12 t _ d ps row hf hrow hw;obtain⟨cs,rfl,hsz⟩:∃cs,v=.agg cs∧cs.size=P.cellsOf t:=by simp only[Value.okWide,hu]at hval;obtain⟨cs,h1,h2,_⟩:=hval;exact⟨cs,h1,h2⟩
   have:=Zdw hx;simp only[Value.cells,QA]at this;exact⟨x,this,hx.ok⟩
  ·cases hk
 ·rename_i m e hu;split at hk
  ·rename_i row hrow;cases hk;obtain⟨x,hx⟩:=Qr0 fuel 12 t _ d ps row hf hrow hw;obtain⟨cs,rfl,hsz⟩:∃cs,v=.agg cs∧cs.size=P.cellsOf t:=by simp only[Value.okWide,hu]at hval;obtain⟨cs,h1,h2,_⟩:=hval;exact⟨cs,h1,h2⟩
   have:=Zdw hx;simp only[Value.cells,QA]at this;exact⟨x,this,hx.ok⟩
  ·cases hk
 ·rename_i u h1 h2 hu;split at hk
  ·rename_i ty hrow;cases hk;obtain⟨x,hx⟩:=Qr0 fuel 12 t _ d ps [ty] hf hrow hw;have hs:u=.bool∨(∃k,u=.int k)∨u=.string∨∃e,u=.slice e:=by
    unfold Qaq at hrow;rw[hu]at hrow;cases u with
    |bool=>exact .inl rfl
    |int k=>exact .inr (.inl ⟨k,rfl⟩)
    |string=>exact .inr (.inr (.inl rfl))
    |slice e=>exact .inr (.inr (.inr ⟨e,rfl⟩))
    |struct fs=>exact(h1 fs rfl).elim
    |array m e=>exact(h2 m e rfl).elim
    |_=>simp at hrow
   rw[Ygf hu hs hval]at hx;exact⟨x,.pv (hx.rep 0 v _ rfl rfl),hx.ok⟩
  ·cases hk
 ·cases hk
theorem Zb9:∀{ts:List TypeId} {vs:List Value} {ds:List (DataW H)} {ps:List MemPlace} {ats:List Qe},ZQ enc P w 0 sp held ts vs ds ps->Qey P ts=some ats->
  (∀(j:Nat) t v,ts[j]? =some t->vs[j]? =some v->Value.okWide P w r b0 t v)->(∀x∈ZE P ts ds,x<=reachBytes)->∃a:Qt ats,Jr (V7 w) Wa vs (Yu ats a)∧Qt.ok ats a
 |[],vs,ds,ps,ats,h,hk,hval,hw=>by simp only[Qey,ZH]at hk;subst hk;cases vs<;>cases ds<;>simp[ZQ]at h;exact⟨(),⟨rfl,fun i v x hv=>by simp at hv⟩,trivial⟩
 |t::ts,vs,ds,ps,ats,h,hk,hval,hw=>by
  obtain⟨v,vs',d,ds',p,q,rfl,rfl,rfl,h1,h2⟩:=ChangeShapes.trodAll_cons h;simp only[Qey]at hk;split at hk
  ·cases hk
  ·rename_i a ha;split at hk
   ·cases hk
   ·rename_i l hl;cases hk;simp only[ZE,ZP]at hw;obtain⟨x,hx,hxo⟩:=Zun ha (hval 0 t v rfl rfl) h1 fun y hy=>hw y (.inl hy);obtain⟨y,hy,hyo⟩:=Zb9 h2 hl (fun j t' v' h1 h2=>hval (j+1) t' v' (by simpa using h1) (by simpa using h2)) fun y hy=>hw y (.inr hy);have cons:∀(i:Nat) (u:Value) (z:SV) (zs:List SV),zs=Yu l y->(v::vs')[i]? =some u->(a.sv x::zs)[i]? =some z->Qf (V7 w) Wa u z:=fun i u z zs e hu hz=>by
     subst e;cases i with
     |zero=>simp at hu hz;subst hu;subst hz;exact hx
     |succ i=>exact hy.2 i u z (by simpa using hu) (by simpa using hz)
    have hlen:vs'.length=(Yu l y).length:=hy.1;match l,y,hyo,cons,hlen with
    |[],y,hyo,cons,hlen=>exact⟨x,⟨by simpa[Yu]using hlen,fun i u z hu hz=>cons i u z _ rfl hu hz⟩,hxo⟩
    |b::l,y,hyo,cons,hlen=>exact⟨(x,y),⟨by simp[Yu,hlen],fun i u z hu hz=>cons i u z _ rfl hu hz⟩,⟨hxo,hyo⟩⟩
end
end Go.Sx
end
section
namespace Go.Sx
open Go Go.ChangeShapes Go.WideShapes Go.RowKit
section
variable {H:Type} {enc:TypeId×Value->H} {P:Program}
theorem Zg1(hl:laidOutB P=true){W W':World}{sp:Nat->Bool}:∀{ts:List TypeId} {vs:List Value} {ds:List (DataW H)} {ps:List MemPlace},
  (ts.all fun t=>P.readableRec t&&decide (t<P.types.size))=true->ZQ enc P W 0 (fun _=>true) true ts vs ds ps->(∀p∈ps,W.sameAt W' p)->(∀p∈ps,sp p.block=true)->ZQ enc P W' 0 sp true ts vs ds ps
 |[],vs,ds,ps,_,h,_,_=>by cases vs<;>cases ds<;>simp[ZQ]at h⊢;exact h
 |t::ts,vs,ds,ps,ht,h,hs,hb=>by
  obtain⟨v,vs',d,ds',p,q,rfl,rfl,rfl,h1,h2⟩:=trodAll_cons h;simp only[ZW,ZA,decide_eq_true_eq]at ht;exact⟨p,q,WideElems.Trod_stays hl ht.1.1 ht.1.2 h1 (fun x hx=>hs x (QN _ hx)) (fun x hx=>hb x (QN _ hx)),
   Zg1 hl ht.2 h2 (fun x hx=>hs x (QL _ hx)) (fun x hx=>hb x (QL _ hx)),rfl⟩
theorem Zam{W:World}{b:Nat}{sp:Nat->Bool}{hd:Bool}:∀{ts:List TypeId} {vs:List Value} {ds:List (DataW H)} {ps:List MemPlace},ZQ enc P W b sp hd ts vs ds ps->ds.length=ts.length
 |[],vs,ds,ps,h=>by cases vs<;>cases ds<;>simp[ZQ]at h⊢
 |t::ts,vs,ds,ps,h=>by obtain⟨v,vs',d,ds',p,q,rfl,rfl,rfl,h1,h2⟩:=trodAll_cons h;simp[Zam h2]
theorem Zu4{cx:Cx}{f:FuncId}{fn:Func}{s:ChangeSpec}{ats:List Qe}{c:Nat->Qt ats->Option Bool}{tb:TypeId}
  (hl:laidOutB cx.P=true) (hps:(fn.params.toList.all fun t=>cx.P.readableRec t&&decide (t<cx.P.types.size))=true) (hk:Qey cx.P fn.params.toList=some ats)
  (hres:fn.resultTypes= #[tb]) (htb:cx.P.underlying tb=some .bool) (hvars:s.vars=[]) (hspec:∀ds:List (DataW H),ds.length=fn.params.toList.length->s.fn H ds={results:=[.lit (.bool true)],args:=ds})
  (hpc:∀F,Qg cx f ⟨ats,[.val .bool],c F⟩) (law:∀a,Qt.ok ats a->∃F,c F a=some true)
  {W:World} {base:Nat} {args:Array Value} {ds gs:List (DataW H)} {before:List MemPlace} {hn:Bool}
  (hval:∀(j:Nat) t v,fn.params[j]? =some t->args[j]? =some v->Value.okWide cx.P W .any base t v)
  (hW:DataW.Whole enc cx.P fn.params.toList s.vars false W args.toList ds gs before)
  (hwt:(ZE cx.P (fn.params.toList++s.plain.varTypes cx.P) (ds++gs)).all (·<=reachBytes)=true):
  Calls cx.P f args W fun e W'=>∃v,e=.returned v∧s.post enc cx.P fn false true hn false W args v W':=by
 have hW':=hW;obtain⟨p,q,hA,hV,rfl,hfz,hnd⟩:=hW;rw[hvars]at hV;obtain⟨rfl,rfl⟩:gs=[]∧q=[]:=by
  cases gs with
  |nil=>exact⟨rfl,hV⟩
  |cons g r=>exact absurd hV (by intro h;cases h)
 have hlen:=Zam hA;have hw:∀x∈ZE cx.P fn.params.toList ds,x<=reachBytes:=by
  have happ:∀(ts:List TypeId) (ds:List (DataW H)) (us:List TypeId),ds.length=ts.length->ZE cx.P (ts++us) ds=ZE cx.P ts ds:=by
   intro ts;induction ts with
   |nil=>intro ds us h;cases ds with
    |nil=>cases us<;>rfl
    |cons _ _=>simp at h
   |cons t ts ih=>intro ds us h;cases ds with
    |nil=>simp at h
    |cons d ds=>simp only[List.cons_append,ZE];rw[ih ds us (by simpa using h)]
  rw[QC,happ _ _ _ hlen]at hwt;intro x hx;have:=ZU.1 hwt x hx;simpa using this
 obtain⟨a,hr,ho⟩:=Zb9 hA hk (fun j t v h1 h2=>hval j t v (by simpa using h1) (by simpa using h2)) hw;obtain⟨F,hF⟩:=law a ho;have hcall:=(hpc F).ok a true hF (V7 W) Wa W args.toList (Qlr fun b o h=>h) hr;rw[QA]at hcall;refine(callsIn_wide.1 hcall).mono fun e W' ⟨v,r,H',M',U',tch,fg,he,⟨hr',_⟩,hx,hm,hf⟩=>?_;subst hr';have hv:v=.bool true:=Qf.Zt (show Qf M' U' v (.pv (.lit (.bool true)))from hx);subst hv;have hsame:∀b,b<W.heap.size->W'.heap[b]? =W.heap[b]? :=fun b hb=>hf.same b hb Qcf;refine⟨_,he,ds,[],p++[],[],p,[],hW',?_,?_,?_,?_,fun h=>by cases h⟩
 ·rw[QC,hspec ds hlen,hres];exact trodAll_mk1 (shut_bool htb true)
 ·rw[QC,hspec ds hlen];refine Zg1 hl hps hA (fun x hx=>?_) (fun x hx=>?_)
  ·have hlt:=hW'.lt x (by simpa using hx);cases x with
   |cell b off=>simp only[World.sameAt,World.cell?];rw[hsame b hlt]
   |map b=>exact hsame b hlt
  ·exact decide_eq_true (hW'.lt x (by simpa using hx))
 ·rw[QC,hspec ds hlen,hvars];rfl
 ·refine⟨hf.io.1,hf.io.2,fun i hi=>?_⟩;rw[hsame i hi];split
  ·rename_i h1 h2;rw[h1]at h2;cases h2;exact⟨rfl,rfl,rfl,fun _ _=>rfl⟩
  ·rename_i h1 h2;rw[h1]at h2;cases h2;exact .inr ⟨rfl,rfl⟩
  ·rfl
end
end Go.Sx
end
namespace Go.Sx
open Go
theorem Zb{X:Type}(x:Option X):gd true x=x:=rfl
theorem Ye4{X:Type}{c:Bool}{x:Option X}(h:c=true):gd c x=x:=by rw[h];rfl
theorem Ze{X:Type}{p:Prop}[Decidable p]{x:Option X}(h:p):gd (decide p) x=x:=Ye4 (decide_eq_true h)
theorem Qk6{O β:Type}{step:O->Option (O ⊕ β)}(Inv:O->Prop)(m:O->Nat)(Qv:β->Prop)
  (h:∀x,Inv x->(∃y,step x=some (.inl y)∧Inv y∧m y<m x)∨∃b,step x=some (.inr b)∧Qv b):∀(F:Nat) (x:O),Inv x->m x<F->∃b,Qx step F x=some b∧Qv b
 |0,x,_,hF=>by omega
 |F+1,x,hx,hF=>by
  rcases h x hx with⟨y,h1,h2,h3⟩|⟨b,h1,h2⟩
  ·simp only[Qx,h1];exact Qk6 Inv m Qv h F y h2 (by omega)
  ·simp only[Qx,h1];exact⟨b,rfl,h2⟩
def goL{α S β:Type}(body:α->S->S ⊕ β)(fin:S->β):List α->S->β
 |[],s=>fin s
 |x::l,s=>match body x s with
  |.inl s'=>goL body fin l s'
  |.inr b=>b
theorem Zi6{α S β:Type}(body:α->S->S ⊕ β)(fin:S->β)(s:S):goL body fin [] s=fin s:=rfl
theorem Qj5{α S β:Type}(body:α->S->S ⊕ β)(fin:S->β)(x:α)(l:List α)(s:S):goL body fin (x::l) s=match body x s with
  |.inl s'=>goL body fin l s'
  |.inr b=>b:=rfl
def Qii{S O β β':Type}(R:S->O->Prop)(Q:β'->β->Prop):S ⊕ β'->O ⊕ β->Prop
 |.inl s,.inl t=>R s t
 |.inr b,.inr b'=>Q b b'
 |_,_=>False
theorem Quh{α S O β β':Type}{step:O->Option (O ⊕ β)}(l:List α)(body:α->S->S ⊕ β')(fin:S->β')(R:Nat->S->O->Prop)(Q:β'->β->Prop)
  (hstep:∀i x s t,i<l.length->l[i]? =some x->R i s t->∃r,step t=some r∧Qii (R (i+1)) Q (body x s) r)
  (hend:∀s t,R l.length s t->∃b',step t=some (.inr b')∧Q (fin s) b'):
  ∀(F i:Nat) (s:S) (t:O),i<=l.length->R i s t->l.length-i<F->∃b',Qx step F t=some b'∧Q (goL body fin (l.drop i) s) b'
 |0,i,s,t,hi,hR,hF=>by omega
 |F+1,i,s,t,hi,hR,hF=>by
  by_cases h:i<l.length
  ·obtain⟨r,h1,h2⟩:=hstep i l[i] s t h (ZB h) hR;rw[List.drop_eq_getElem_cons h,Qj5];cases hb:body l[i] s with
   |inl s'=>
    rw[hb]at h2;cases r with
    |inl t'=>simp only[Qx,h1];exact Quh l body fin R Q hstep hend F (i+1) s' t' h h2 (by omega)
    |inr b'=>exact h2.elim
   |inr b=>
    rw[hb]at h2;cases r with
    |inl t'=>exact h2.elim
    |inr b'=>simp only[Qx,h1];exact⟨b',rfl,h2⟩
  ·obtain rfl:i=l.length:=by omega
   rw[List.drop_length,Zi6];obtain⟨b',ht,hQ⟩:=hend s t hR;simp only[Qx,ht];exact⟨b',rfl,hQ⟩
theorem Qya{α S O β β' γ:Type}{step:O->Option (O ⊕ β)}{F:Nat}{t:O}{k:β->Option γ}{P:γ->Prop}(l:List α)(body:α->S->S ⊕ β')(fin:S->β')(R:Nat->S->O->Prop)(Q:β'->β->Prop)(s:S)
  (hF:l.length<F) (h0:R 0 s t)
  (hstep:∀i x s t,i<l.length->l[i]? =some x->R i s t->∃r,step t=some r∧Qii (R (i+1)) Q (body x s) r)
  (hend:∀s t,R l.length s t->∃b',step t=some (.inr b')∧Q (fin s) b')
  (hk:∀b',Q (goL body fin l s) b'->∃r,k b'=some r∧P r):∃r,QO (Qx step F t) k=some r∧P r:=by
 obtain⟨b',h1,h2⟩:=Quh l body fin R Q hstep hend F 0 s t (ZZ _) h0 (by omega);rw[h1];exact hk b' h2
theorem Zyb{γ:Type}{o:Option γ}{r:γ}(h:∃x,o=some x∧x=r):o=some r:=by obtain⟨x,h1,h2⟩:=h;rw[h1,h2]
theorem Yrd{α S O β:Type}{step:O->Option (O ⊕ β)}(l:List α)(enc:S->Nat->O)(body:α->S->S ⊕ β)(fin:S->β)(I:Nat->S->Prop)
  (hstep:∀i x s,i<l.length->l[i]? =some x->I i s->step (enc s i)=some (match body x s with|.inl s'=>.inl (enc s' (i+1))|.inr b=>.inr b)∧∀s',body x s=.inl s'->I (i+1) s')
  (hend:∀s,I l.length s->step (enc s l.length)=some (.inr (fin s))) {F:Nat} {s:S} {t:O} (ht:t=enc s 0) (hI:I 0 s) (hF:l.length<F):Qx step F t=some (goL body fin l s):=by
 obtain⟨b,h1,h2⟩:=Quh (step:=step) l body fin (fun i s t=>t=enc s i∧I i s) (fun a b=>a=b)
  (fun i x s t hi hx ⟨e,h⟩=>by
   obtain⟨h1,h2⟩:=hstep i x s hi hx h;subst e;refine⟨_,h1,?_⟩;cases hb:body x s with
   |inl s'=>exact⟨rfl,h2 s' hb⟩
   |inr b=>exact rfl)
  (fun s t ⟨e,h⟩=>by subst e;exact⟨_,hend s h,rfl⟩) F 0 s t (ZZ _) ⟨ht,hI⟩ (by omega)
 rw[h1,<-h2];rfl
theorem Jy{α S O β γ:Type}{step:O->Option (O ⊕ β)}{F:Nat}{t:O}{k:β->Option γ}{r:Option γ}(l:List α)(enc:S->Nat->O)(body:α->S->S ⊕ β)(fin:S->β)(I:Nat->S->Prop)(s:S)
  (hF:l.length<F) (ht:t=enc s 0) (hI:I 0 s)
  (hstep:∀i x s,i<l.length->l[i]? =some x->I i s->step (enc s i)=some (match body x s with|.inl s'=>.inl (enc s' (i+1))|.inr b=>.inr b)∧∀s',body x s=.inl s'->I (i+1) s')
  (hend:∀s,I l.length s->step (enc s l.length)=some (.inr (fin s)))
  (hk:k (goL body fin l s)=r):QO (Qx step F t) k=r:=by
 rw[Yrd l enc body fin I hstep hend ht hI hF];exact hk
theorem Qev{α S β:Type}(f:S->α->S)(fin:S->β):∀(l:List α) (s:S),goL (fun x s=>.inl (f s x)) fin l s=fin (l.foldl f s)
 |[],s=>rfl
 |x::l,s=>Qev f fin l (f s x)
theorem Zib{α β:Type}(r:β)(l:List α):goL (fun(_:α) (_:Unit)=>(Sum.inl ():Unit ⊕ β)) (fun _=>r) l ()=r:=by rw[Qev (fun _ _=>())]
theorem Qbq{α β:Type}(p:α->Bool)(b1 b2:β):∀(l:List α),goL (fun x (_:Unit)=>if p x=true then .inr b1 else .inl ()) (fun _=>b2) l ()=if l.any p=true then b1 else b2
 |[]=>rfl
 |x::l=>by
  rw[Qj5,List.any_cons];cases h:p x with
  |true=>simp
  |false=>simpa using Qbq p b1 b2 l
theorem Qib{α γ β:Type}(f:α->γ)(fin:List γ->β):∀(l:List α) (out:List γ),goL (fun x out=>.inl (out++[f x])) fin l out=fin (out++l.map f)
 |[],out=>by simp[Zi6]
 |x::l,out=>by rw[Qj5];simp[Qib f fin l]
theorem Z1{X:Type}{p:Prop}[Decidable p]{a b:X}(h:p):cond (decide p) a b=a:=by simp[h]
theorem Zz{X:Type}{p:Prop}[Decidable p]{a b:X}(h:¬p):cond (decide p) a b=b:=by simp[h]
theorem getD_some{α:Type}{l:List α}{i:Nat}{x d:α}(h:l[i]? =some x):l.getD i d=x:=by rw[QD,h];rfl
def Zo3{β:Type}(good:Prop)(Q:β->Prop)(i:Nat)(r:Int ⊕ β):Prop:=(r=.inl ((i:Int)+1)∧good)∨∃b,r=.inr b∧Q b
theorem Qv2{α β γ:Type}{step:Int->Option (Int ⊕ β)}{F:Nat}{k:β->Option γ}{P:γ->Prop}(l:List α)(good:α->Prop)(Q:β->Prop)(hF:l.length<F)
  (hstep:∀(i:Nat) x,i<l.length->l[i]? =some x->∃r,step (i:Int)=some r∧Zo3 (good x) Q i r)
  (hend:(∀x∈l,good x)->∃b,step (l.length:Int)=some (.inr b)∧Q b)
  (hk:∀b,Q b->∃r,k b=some r∧P r):∃r,QO (Qx step F 0) k=some r∧P r:=by
 obtain⟨b,h1,h2⟩:=Qk6 (step:=step) (fun v:Int=>0<=v∧v<=l.length∧∀x∈l.take v.toNat,good x) (fun v=>l.length-v.toNat) Q (by
  intro v ⟨h0,h1,h2⟩;by_cases hv:v<l.length
  ·have hk:v.toNat<l.length:=by omega
   have hx:=ZB hk;have ev:((v.toNat:Nat):Int)=v:=by omega
   obtain⟨r,hs,hr⟩:=hstep v.toNat _ hk hx;rw[ev]at hs;rcases hr with⟨rfl,hg⟩|⟨b,rfl,hb⟩
   ·left;rw[ev]at hs;refine⟨v+1,hs,⟨by omega,by omega,?_⟩,by omega⟩;rw[show(v+1).toNat=v.toNat+1 by omega,QS,hx];intro y hy;rcases ZP.1 hy with hy|hy
    ·exact h2 y hy
    ·obtain rfl:=QR.1 hy;exact hg
   ·exact .inr ⟨b,hs,hb⟩
  ·have ev:v=l.length:=by omega
   subst ev;right;refine hend ?_;simpa using h2) F 0 ⟨by omega,by omega,by simp⟩ (by simpa using hF)
 rw[h1];exact hk b h2
theorem Qyp{α:Type}{l:List α}{i:Nat}{x:α}(h:l[i]? =some x):l.take i++x::Qa α=l.take (i+1):=by rw[QS,h];rfl
theorem Zhg{α:Type}{l:List α}{i:Nat}(h:i<=l.length):(l.take i).length=i:=by rw[List.length_take];omega
theorem Zuu{α:Type}(l:List α)(x:α):(l++x::Qa α).length=l.length+1:=by simp[Qa]
theorem Yhf{α:Type}(l:List α):List.take l.length (List.drop 0 l)=l:=by simp
theorem Zem{α:Type}{P R:List α}{n m:α}{i:Nat}(h:P.length=i):(P++n::R).set i m=P++m::R:=by subst h;rw[List.set_append_right _ _ (ZO _)];simp
theorem Zkk{α:Type}{P R:List α}{n d:α}{i:Nat}(h:P.length=i):(P++n::R).getD i d=n:=by subst h;rw[QD,List.getElem?_append_right (ZO _)];simp
theorem Zbc{α β:Type}(p:α->Bool)(val:Nat->β)(nil:β):∀(l:List α) (k:Nat),goL (fun x (s:Nat)=>if p x=true then .inr (val s)else .inl (s+1)) (fun _=>nil) l k=match l.findIdx? p with
  |some i=>val (k+i)
  |none=>nil
 |[],k=>rfl
 |x::l,k=>by
  rw[Qj5,List.findIdx?_cons];by_cases h:p x=true
  ·simp[h]
  ·simp only[h,Bool.false_eq_true,if_false];rw[Zbc p val nil l (k+1)];cases l.findIdx? p with
   |none=>rfl
   |some i=>simp only[Option.map_some];rw[Nat.add_assoc,Nat.add_comm 1 i]
theorem Zzi{α β γ:Type}{step:Int->Option (Int ⊕ β)}{F:Nat}{k:β->Option γ}{r:Option γ}(l:List α)(p:α->Bool)(val:Nat->β)(nil:β)(hF:l.length<F)
  (hstep:∀(i:Nat) x,i<l.length->l[i]? =some x->step (i:Int)=some (if p x=true then .inr (val i)else .inl ((i:Int)+1)))
  (hend:step (l.length:Int)=some (.inr nil))
  (hk:k (match l.findIdx? p with|some i=>val i|none=>nil)=r):QO (Qx step F 0) k=r:=by
 refine Jy l (fun(_:Nat) i=>(i:Int)) (fun x (s:Nat)=>if p x=true then .inr (val s)else .inl (s+1)) (fun _=>nil) (fun i s=>s=i) 0 hF rfl rfl ?_ ?_ ?_
 ·intro i x s hi hx hs;subst hs;rw[hstep s x hi hx];by_cases h:p x=true
  ·simp[h]
  ·simp[h]
 ·intro s hs;exact hend
 ·rw[Zbc p val nil l 0];rw[<-hk];cases l.findIdx? p with
  |none=>rfl
  |some i=>simp
theorem Qjv{K V:Type}{eq:K->K->Bool}{k:K}:∀(l:List (K×V)) (n:Nat),Xi eq k l n=(Xi eq k l 0).map fun p=>(n+p.1,p.2)
 |[],n=>rfl
 |e::l,n=>by
  simp only[Xi];cases eq k e.1 with
  |true=>simp
  |false=>
   simp only[];rw[Qjv l (n+1),Qjv l (0+1)];cases Xi eq k l 0 with
   |none=>rfl
   |some p=>simp;omega
theorem Zar{K V:Type}{eq:K->K->Bool}{k:K}{z:V}:Y6 eq k [] z=z:=rfl
theorem Qf5{K V:Type}{eq:K->K->Bool}{k:K}{e:K×V}{l:List (K×V)}{z:V}:Y6 eq k (e::l) z=if eq k e.1=true then e.2 else Y6 eq k l z:=by
 unfold Y6;simp only[Xi];cases eq k e.1 with
 |true=>simp
 |false=>
  simp only[];rw[Qjv l (0+1)];cases Xi eq k l 0 with
  |none=>simp
  |some p=>simp
theorem Ygx{K V:Type}{eq:K->K->Bool}{k:K}:Wc (V:=V) eq k []=false:=rfl
theorem Yrr{K V:Type}{eq:K->K->Bool}{k:K}{e:K×V}{l:List (K×V)}:Wc eq k (e::l)=(eq k e.1||Wc eq k l):=by
 unfold Wc;simp only[Xi];cases eq k e.1 with
 |true=>simp
 |false=>
  simp only[];rw[Qjv l (0+1)];cases Xi eq k l 0 with
  |none=>simp
  |some p=>simp
theorem Zan{K V:Type}{eq:K->K->Bool}{k:K}{x:V}:Jf eq k x []=[(k,x)]:=rfl
theorem Zj3{K V:Type}{eq:K->K->Bool}{k:K}{x:V}{e:K×V}{l:List (K×V)}:Jf eq k x (e::l)=if eq k e.1=true then(k,x)::l else e::Jf eq k x l:=by
 unfold Jf;simp only[Xi];cases eq k e.1 with
 |true=>simp
 |false=>
  simp only[];rw[Qjv l (0+1)];cases Xi eq k l 0 with
  |none=>simp
  |some p=>simp[Nat.add_comm 1 p.1]
def Zk7{K:Type}(eq:K->K->Bool):Prop:=∀a b,eq a b=true↔a=b
theorem Zce:Zk7 Qc:=fun a b=>by simp[Qc]
theorem Zic{K V:Type}{eq:K->K->Bool}(h:Zk7 eq){k k':K}{x z:V}:∀{l:List (K×V)},Y6 eq k' (Jf eq k x l) z=if eq k' k=true then x else Y6 eq k' l z
 |[]=>by rw[Zan,Qf5]
 |e::l=>by
  rw[Zj3];by_cases he:eq k e.1=true
  ·have hk:=(h _ _).1 he;rw[if_pos he,Qf5,Qf5,<-hk];by_cases hk:eq k' k=true
   ·rw[if_pos hk,if_pos hk]
   ·rw[if_neg hk,if_neg hk];simp[hk]
  ·rw[if_neg he,Qf5,Qf5,Zic h (l:=l)];by_cases hk:eq k' k=true
   ·have:=(h _ _).1 hk;subst this;rw[if_neg he,if_pos hk,if_pos hk]
   ·rw[if_neg hk,if_neg hk]
theorem Qwn(x:UInt8):((BitVec.toFin (UInt8.toBitVec x)).1:Int)=(x.toNat:Int):=rfl
theorem Yke{s:ByteArray}{i:Nat}(h:(s.get! i).toNat<128):QE s i=((s.get! i).toNat,1):=by simp only[QE,Nat.add_zero];rw[if_pos h]
theorem Yp8{s:ByteArray}{i:Nat}(h:¬(s.get! i).toNat<128):128<=(QE s i).1:=by
 simp only[QE,Nat.add_zero,Go.Utf8.runeError];rw[if_neg h]
 repeat' split
 all_goals simp only[ZA,decide_eq_true_eq,ge_iff_le]at*
 all_goals omega
theorem Y1{a b:ByteArray}:Qc a b=true↔a=b:=Zce a b
theorem Qfa{a b:ByteArray}(h:a≠b):Qc a b=false:=by
 cases e:Qc a b with
 |false=>rfl
 |true=>exact absurd (Y1.1 e) h
theorem Wr(a:ByteArray):Qc a a=true:=Y1.2 rfl
theorem Zbn(a b:ByteArray):Qc a b=decide (a=b):=by
 by_cases h:a=b
 ·subst h;simp[Wr]
 ·simp[h,Qfa h]
def YA:=((0:Int),ZD,ZD,ZD,ZD,ZD,(0:Int),(0:Int),ZD,(0:Int),ZD,Qa ByteArray)
def YB:ByteArray:={data:=ZC ((119:UInt8)::(105:UInt8)::(116:UInt8)::(104:UInt8)::(100:UInt8)::(114:UInt8)::(97:UInt8)::(119:UInt8)::Qa UInt8)}
def YC:ByteArray:={data:=ZC (Qa UInt8)}
def YD:ByteArray:={data:=ZC ((116:UInt8)::(114:UInt8)::(97:UInt8)::(110:UInt8)::(115:UInt8)::(102:UInt8)::(101:UInt8)::(114:UInt8)::Qa UInt8)}
def YE:ByteArray:={data:=ZC ((101:UInt8)::(110:UInt8)::(116:UInt8)::(101:UInt8)::(114:UInt8)::Qa UInt8)}
def YF:ByteArray:={data:=ZC ((97:UInt8)::(116:UInt8)::(104:UInt8)::(108:UInt8)::(101:UInt8)::(116:UInt8)::(101:UInt8)::Qa UInt8)}
def YG:ByteArray:={data:=ZC ((108:UInt8)::(105:UInt8)::(99:UInt8)::(101:UInt8)::(110:UInt8)::(99:UInt8)::(101:UInt8)::Qa UInt8)}
def YH:ByteArray:={data:=ZC ((99:UInt8)::(104:UInt8)::(101:UInt8)::(99:UInt8)::(107:UInt8)::Qa UInt8)}
def YI:ByteArray:={data:=ZC ((116:UInt8)::(101:UInt8)::(97:UInt8)::(109:UInt8)::Qa UInt8)}
def YJ:ByteArray:={data:=ZC ((99:UInt8)::(108:UInt8)::(117:UInt8)::(98:UInt8)::Qa UInt8)}
def YK:=(ZD,ZD,Qa ByteArray)
def YL:ByteArray:={data:=ZC ((116:UInt8)::(105:UInt8)::(109:UInt8)::(101:UInt8)::Qa UInt8)}
def YM:ByteArray:={data:=ZC ((108:UInt8)::(101:UInt8)::(110:UInt8)::(103:UInt8)::(116:UInt8)::(104:UInt8)::Qa UInt8)}
def YN:ByteArray:={data:=ZC ((110:UInt8)::(111:UInt8)::(110:UInt8)::(101:UInt8)::Qa UInt8)}
def YO:ByteArray:={data:=ZC ((112:UInt8)::(111:UInt8)::(105:UInt8)::(110:UInt8)::(116:UInt8)::(115:UInt8)::Qa UInt8)}
def YP:=(ZD,(0:Int),(0:Int))
def YQ:=(ZD,false)
def YR:ByteArray:={data:=ZC ((78:UInt8)::(77:UInt8)::Qa UInt8)}
def YS:ByteArray:={data:=ZC ((68:UInt8)::(78:UInt8)::(83:UInt8)::Qa UInt8)}
def YT:ByteArray:={data:=ZC ((68:UInt8)::(78:UInt8)::(70:UInt8)::Qa UInt8)}
def YU:ByteArray:={data:=ZC ((68:UInt8)::(81:UInt8)::Qa UInt8)}
def YV:ByteArray:={data:=ZC ((97:UInt8)::(107:UInt8)::Qa UInt8)}
def YW:ByteArray:={data:=ZC ((97:UInt8)::(99:UInt8)::(103:UInt8)::(102:UInt8)::Qa UInt8)}
def YX:ByteArray:={data:=ZC ((97:UInt8)::(102:UInt8)::(116:UInt8)::Qa UInt8)}
def YY:ByteArray:={data:=ZC ((97:UInt8)::(107:UInt8)::(109:UInt8)::Qa UInt8)}
def YZ:ByteArray:={data:=ZC ((99:UInt8)::(107:UInt8)::(110:UInt8)::Qa UInt8)}
def WA:ByteArray:={data:=ZC ((97:UInt8)::(99:UInt8)::Qa UInt8)}
def WB:ByteArray:={data:=ZC ((99:UInt8)::Qa UInt8)}
end Go.Sx
