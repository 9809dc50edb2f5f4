/- A state that is valid stays valid behind a legal act. Plain: the list of a contest in a state that comes of few acts: few are in it, and nobody twice. And further parts. -/
import Derived.Test.YtpkbmngnolhopaaGreatDoorXTeR2
import Derived.Test.YtpkbmngnolhopaaGreatDoorXT3q
import Derived.Test.YtpkbmngnolhopaaGreatDoorXSxSo
set_option maxRecDepth 100000
set_option linter.unusedVariables false
set_option linter.unusedSimpArgs false
open List renaming mem_cons_of_mem->o,mem_cons_self->J,getElem?_eq_getElem->U,mem_map->ZA,range->ZB,any_eq_false->ZC,pairwise_map->ZE,mem_singleton->ZF,length_append->ZG,pairwise_iff_getElem->ZH,mem_take_iff_getElem->ZI,map_cons->ZJ,mem_cons->ZK,length_cons->ZL,length_map->ZM,map_append->ZN,length_singleton->ZO,mem_of_getElem?->ZP,nodup_cons->ZQ,mem_filter->ZR,length_set->ZS,foldl_cons->ZT,mem_append->ZU,mem_range->ZV
open Bool renaming eq_false_iff->ZD
namespace Go.Proofs.Tryz
open Go Go.Sx
theorem Qh2{α:Type}{l:List α}{ok:α->Prop}{same:α->α->Bool}{fE:Nat->Int}(h:∀i x,l[i]? =some x->(fE i=0↔ok x∧(l.take i).any (same x)=false)):
  Qn ((ZB l.length).map fE)=0↔(∀x∈l,ok x)∧l.Pairwise fun x y=>same y x=false:=by
 constructor
 ·intro h0;have hz:∀i x,l[i]? =some x->fE i=0:=fun i x hx=>Y1 h0 _ (ZA.2 ⟨i,ZV.2 (List.getElem?_eq_some_iff.1 hx).1,rfl⟩);refine⟨fun x hx=>?_,?_⟩
  ·obtain⟨i,hi⟩:=List.getElem?_of_mem hx;exact((h i x hi).1 (hz i x hi)).1
  ·rw[ZH];intro i j hi hj hij;have:=((h j _ (U hj)).1 (hz j _ (U hj))).2;rw[ZC]at this;exact ZD.2 (this _ (ZI.2 ⟨i,by omega,rfl⟩))
 ·rintro ⟨h1,h2⟩
  refine Qjc fun e he=>?_;obtain⟨i,hi,rfl⟩:=ZA.1 he;have hi:=ZV.1 hi;refine(h i _ (U hi)).2 ⟨h1 _ (List.getElem_mem hi),?_⟩;rw[ZC];intro y hy;obtain⟨k,hk,rfl⟩:=ZI.1 hy;have:=ZH.1 h2 k i (by omega) hi (by omega);exact ZD.1 this
def Qf2(s:Qi)(y:Ath):Prop:=Xk y.1=true∧hasB s.1 y.2.1=true∧Yq y.2.2.1=false∧Xk y.2.2.2=true
def Qe9(s:Qi)(y:Lic):Prop:=0<=aI s y.1∧Qp3 y.2.1 y.2.2=0
def Qew(m:Mt)(s:Qi)(y:Qq):Prop:=0<=aI s y.1∧0<=cI m y.2.1∧¬ 0<(Zh m y.2.1).2.2.2.2.2.2.2.2.2.2∧Jv y.2.2.1 y.2.2.2.1 y.2.2.2.2.1=0∧Jj (Zh m y.2.1).2.1 y.2.2.1=true∧Yq y.2.2.2.2.2.1=false
def Qd1(m:Mt)(s:Qi)(y:Tm):Prop:=hasB s.1 y.1=true∧0<=cI m y.2.1∧(Zh m y.2.1).2.2.2.2.2.2.2.2.2.2≠0∧(y.2.2.length:Int)=(Zh m y.2.1).2.2.2.2.2.2.2.2.2.2∧(∀z∈y.2.2,0<=aI s z)∧y.2.2.Pairwise fun a b=>Qc a b=false
structure X0 (m:Mt) (s:Qi):Prop where
 mt:Z4 m=0
 many:¬K2 s
 c1:∀x∈s.1,Xk x=true
 c2:s.1.Pairwise fun x y=>Qc x y=false
 a1:∀x∈s.2.1,Qf2 s x
 a2:s.2.1.Pairwise fun x y=>Qc x.1 y.1=false
 l1:∀x∈s.2.2.1,Qe9 s x
 e1:∀x∈s.2.2.2.1,Qew m s x
 e2:s.2.2.2.1.Pairwise fun x y=>eP y.1 y.2.1 x=false
 t1:∀x∈s.2.2.2.2,Qd1 m s x
 t2:s.2.2.2.2.Pairwise fun x y=>tP y.1 y.2.1 x=false
theorem Zkr(l:List ByteArray):Qn ((ZB l.length).map (Qy9 l))=0↔(∀x∈l,Xk x=true)∧l.Pairwise fun x y=>Qc x y=false:=by refine Qh2 (ok:=fun x=>Xk x=true) (same:=fun x y=>Qc y x) fun i x hx=>?_;unfold Qy9;rw[getD_some hx];have e:((l.take i).any fun y=>Qc y x)=hasB (l.take i) x:=rfl;rw[e];cases Xk x<;>cases hasB (l.take i) x<;>simp
theorem Zat(s:Qi):Qn ((ZB s.2.1.length).map (Qyy s))=0↔(∀x∈s.2.1,Qf2 s x)∧s.2.1.Pairwise fun x y=>Qc x.1 y.1=false:=by refine Qh2 (ok:=Qf2 s) (same:=fun x y=>Qc y.1 x.1) fun i x hx=>?_;unfold Qyy Qf2;rw[getD_some hx];generalize ((s.2.1.take i).any fun y=>Qc y.1 x.1)=b;cases Xk x.1<;>cases b<;>cases hasB s.1 x.2.1<;>cases Yq x.2.2.1<;>cases Xk x.2.2.2<;>simp
theorem Za7(s:Qi):Qn ((ZB s.2.2.1.length).map (Qo3 s))=0↔∀x∈s.2.2.1,Qe9 s x:=by
 have h:=Qh2 (l:=s.2.2.1) (ok:=Qe9 s) (same:=fun _ _=>false) (fE:=Qo3 s) (fun i x hx=>by
  unfold Qo3 Qe9;rw[getD_some hx];by_cases h:aI s x.1<0
  ·simp[h];omega
  ·simp[h];omega)
 rw[h];exact⟨fun h=>h.1,fun h=>⟨h,List.pairwise_of_forall fun _ _=>rfl⟩⟩
theorem Zfx(m:Mt)(s:Qi):Qn ((ZB s.2.2.2.1.length).map (Qbz m s))=0↔(∀x∈s.2.2.2.1,Qew m s x)∧s.2.2.2.1.Pairwise fun x y=>eP y.1 y.2.1 x=false:=by
 refine Qh2 (ok:=Qew m s) (same:=fun x y=>eP x.1 x.2.1 y) fun i x hx=>?_;unfold Qbz Qew;rw[getD_some hx];have e:((s.2.2.2.1.take i).any fun y=>eP x.1 x.2.1 y)=(s.2.2.2.1.take i).any (eP x.1 x.2.1):=rfl;rw[e];generalize (s.2.2.2.1.take i).any (eP x.1 x.2.1)=b;by_cases h1:aI s x.1<0
 ·simp[h1];omega
 ·by_cases h2:cI m x.2.1<0
  ·simp[h2];omega
  ·have h1':0<=aI s x.1:=by omega
   have h2':0<=cI m x.2.1:=by omega
   by_cases h3:0<(Zh m x.2.1).2.2.2.2.2.2.2.2.2.2
   ·simp[h1,h2,h3]
   ·by_cases h4:Jv x.2.2.1 x.2.2.2.1 x.2.2.2.2.1=0
    ·cases b<;>cases Jj (Zh m x.2.1).2.1 x.2.2.1<;>cases Yq x.2.2.2.2.2.1<;>simp[h1,h2,h3,h4,h1',h2']
    ·cases b<;>simp[h1,h2,h3,h4]
theorem Zlv(s:Qi)(l:List ByteArray):Qn ((ZB l.length).map (Qln s l))=0↔(∀z∈l,0<=aI s z)∧l.Pairwise fun a b=>Qc a b=false:=by
 refine Qh2 (ok:=fun z=>0<=aI s z) (same:=fun x y=>Qc y x) fun i x hx=>?_;unfold Qln;rw[getD_some hx];have e:((l.take i).any fun y=>Qc y x)=hasB (l.take i) x:=rfl;rw[e];by_cases h:aI s x<0
 ·simp[h];omega
 ·have h':0<=aI s x:=by omega
  cases hasB (l.take i) x<;>simp[h,h']
theorem Za1(m:Mt)(s:Qi):Qn ((ZB s.2.2.2.2.length).map (Qy8 m s))=0↔(∀x∈s.2.2.2.2,Qd1 m s x)∧s.2.2.2.2.Pairwise fun x y=>tP y.1 y.2.1 x=false:=by
 refine Qh2 (ok:=Qd1 m s) (same:=fun x y=>tP x.1 x.2.1 y) fun i x hx=>?_;unfold Qy8 Qd1;rw[getD_some hx];have hr:=Zlv s x.2.2;have e:((s.2.2.2.2.take i).any fun y=>tP x.1 x.2.1 y)=(s.2.2.2.2.take i).any (tP x.1 x.2.1):=rfl;rw[e];generalize (s.2.2.2.2.take i).any (tP x.1 x.2.1)=b;by_cases h2:cI m x.2.1<0
 ·simp[h2];omega
 ·have h2':0<=cI m x.2.1:=by omega
  cases hasB s.1 x.1 with
  |false=>simp
  |true=>
   by_cases h3:(Zh m x.2.1).2.2.2.2.2.2.2.2.2.2=0
   ·simp[h2,h3]
   ·by_cases h4:(x.2.2.length:Int)=(Zh m x.2.1).2.2.2.2.2.2.2.2.2.2
    ·cases b with
     |true=>simp[h2,h3]
     |false=>rw[if_neg (by simp[h2]),if_neg h3,if_neg (by simp),if_pos h4,hr];simp[h2',h3,h4]
    ·cases b<;>simp[h2,h3,h4]
theorem Qoa(m:Mt)(s:Qi):stE m s=0↔X0 m s:=by
 unfold stE;constructor
 ·intro h;by_cases h1:Z4 m=0
  ·rw[if_pos h1]at h;by_cases h2:K2 s
   ·rw[if_pos h2]at h;cases h
   ·rw[if_neg h2]at h;have g0:=(Zkr s.1).1 (Y1 h _ (J ..));have g1:=(Zat s).1 (Y1 h _ (o _ (J ..)));have g2:=(Za7 s).1 (Y1 h _ (o _ (o _ (J ..))));have g3:=(Zfx m s).1 (Y1 h _ (o _ (o _ (o _ (J ..)))));have g4:=(Za1 m s).1 (Y1 h _ (o _ (o _ (o _ (o _ (J ..))))));exact⟨h1,h2,g0.1,g0.2,g1.1,g1.2,g2,g3.1,g3.2,g4.1,g4.2⟩
  ·rw[if_neg h1]at h;exact absurd h h1
 ·intro h;rw[if_pos h.mt,if_neg h.many,(Zkr s.1).2 ⟨h.c1,h.c2⟩,(Zat s).2 ⟨h.a1,h.a2⟩,(Za7 s).2 h.l1,(Zfx m s).2 ⟨h.e1,h.e2⟩,(Za1 m s).2 ⟨h.t1,h.t2⟩];rfl
theorem Qvh(s:Qi)(x:ByteArray):0<=aI s x↔(s.2.1.any fun y=>Qc y.1 x)=true:=by unfold aI;rw[<-Qmf,decide_eq_true_eq]
theorem Yb5{α:Type}(p:α->Bool)(l:List α)(x:α):(l++[x]).any p=(l.any p||p x):=by simp
theorem Qn6{α:Type}{R:α->α->Prop}{l:List α}{x:α}(h:l.Pairwise R)(hx:∀y∈l,R y x):(l++[x]).Pairwise R:=by rw[List.pairwise_append];exact⟨h,List.pairwise_singleton ..,fun a ha b hb=>by rw[ZF.1 hb];exact hx a ha⟩
theorem Qj8{α:Type}{Q:α->Prop}{l:List α}{x:α}(h:∀y∈l,Q y)(hx:Q x):∀y∈l++[x],Q y:=fun y hy=>(Qlm hy).elim (h y) fun e=>e▸hx
structure Qgh (s s':Qi):Prop where
 c:∀x,hasB s.1 x=true->hasB s'.1 x=true
 a:∀x,0<=aI s x->0<=aI s' x
theorem Qf2.more{s s':Qi}(hc:∀x,hasB s.1 x=true->hasB s'.1 x=true){y:Ath}(h:Qf2 s y):Qf2 s' y:=⟨h.1,hc _ h.2.1,h.2.2.1,h.2.2.2⟩
theorem Qe9.more{s s':Qi}(h2:Qgh s s'){y:Lic}(h:Qe9 s y):Qe9 s' y:=⟨h2.a _ h.1,h.2⟩
theorem Qew.more{m:Mt}{s s':Qi}(h2:Qgh s s'){y:Qq}(h:Qew m s y):Qew m s' y:=⟨h2.a _ h.1,h.2⟩
theorem Qd1.more{m:Mt}{s s':Qi}(h2:Qgh s s'){y:Tm}(h:Qd1 m s y):Qd1 m s' y:=⟨h2.c _ h.1,h.2.1,h.2.2.1,h.2.2.2.1,fun z hz=>h2.a _ (h.2.2.2.2.1 z hz),h.2.2.2.2.2⟩
theorem Qfd{s:Qi}{n:Nat}(h:GrS n s)(hn:n<=256):¬K2 s:=by have h1:=h.c;have h2:=h.a;have h3:=h.l;have h4:=h.e;have h5:=h.t;unfold K2;omega
theorem Zlf{α κ:Type}(key:α->κ){l:List α}{k:Nat}{x:α}(hk:∀y,l[k]? =some y->key x=key y):(l.set k x).map key=l.map key:=by
 rw[List.map_set];by_cases h:k<l.length
 ·have:=hk _ (U h);exact set_self (by rw[List.getElem?_map,U h,this];rfl)
 ·exact List.set_eq_of_length_le (by rw[ZM];omega)
theorem Qx9{α κ:Type}{R:κ->κ->Prop}(key:α->κ){l:List α}{k:Nat}{x:α}(hk:∀y,l[k]? =some y->key x=key y)(h:l.Pairwise fun a b=>R (key a) (key b)):(l.set k x).Pairwise fun a b=>R (key a) (key b):=by rw[<-ZE (f:=key) (R:=R),Zlf key hk,ZE];exact h
theorem Qxv{α:Type}{Q:α->Prop}{l:List α}{k:Nat}{x:α}(h:∀y∈l,Q y)(hx:Q x):∀y∈l.set k x,Q y:=fun y hy=>by
 rcases List.mem_or_eq_of_mem_set hy with hy|rfl
 ·exact h y hy
 ·exact hx
theorem Qtg{x:ByteArray}(h:Yb x=0):Xk x=true:=by
 unfold Yb at h;by_cases q:Xk x=true
 ·exact q
 ·rw[if_neg q]at h;cases h
theorem Qpz{n:Int}(h:Yp n=0):Yq n=false:=by
 unfold Yp at h;cases q:Yq n with
 |false=>rfl
 |true=>rw[if_pos q]at h;cases h
theorem Qtz{α:Type}{p:α->Bool}{l:List α}(h:Xc p l<0):∀y∈l,p y=false:=by have:=Qmf p l;rw[decide_eq_false (by omega)]at this;have:=ZC.1 this.symm;exact fun y hy=>ZD.2 (this y hy)
theorem Yp1{n:Nat}{m:Mt}{s:Qi}{b:Q0}(h:X0 m s)(hg:GrS n (U8 s b))(hn:n<=256)(h0:Yz (b.1,Yw,b.2)=0)(hl:Qan s b=0):X0 m (U8 s b):=by
 have h0:Z5 false true false false false false false false false b=0:=h0;have hc:hasB s.1 b.2.2.1=false:=by
  unfold Qan at hl;cases q:hasB s.1 b.2.2.1 with
  |false=>rfl
  |true=>rw[if_pos q]at hl;cases hl
 have hx:=ZC.1 hc;have mo:Qgh s (U8 s b):=⟨fun x hx=>by(show hasB (s.1++[b.2.2.1]) x=true;rw[Quc,hx];rfl),fun x hx=>hx⟩;exact⟨h.mt,Qfd hg hn,Qj8 h.c1 (Qtg (Y1 h0 _ (by simp))),Qn6 h.c2 fun y hy=>ZD.2 (hx y hy),fun x hx=>(h.a1 x hx).more mo.c,h.a2,fun x hx=>(h.l1 x hx).more mo,fun x hx=>(h.e1 x hx).more mo,h.e2,fun x hx=>(h.t1 x hx).more mo,h.t2⟩
theorem Zqn{n:Nat}{m:Mt}{s:Qi}{b:Q0}(h:X0 m s)(hg:GrS n (U2 s b))(hn:n<=256)(h0:Yz (b.1,Ys,b.2)=0)(hl:Qbf s b=0):X0 m (U2 s b):=by
 have h0:Z5 true true true false true false false false false b=0:=h0;unfold Qbf at hl;have hc:hasB s.1 b.2.2.1=true:=by
  cases q:hasB s.1 b.2.2.1 with
  |true=>rfl
  |false=>rw[if_neg (by rw[q];decide)]at hl;cases hl
 rw[if_pos hc]at hl;have ha:aI s b.2.1<0:=by
  by_cases q:0<=aI s b.2.1
  ·rw[if_pos q]at hl;cases hl
  ·omega
 have mo:Qgh s (U2 s b):=⟨fun x hx=>hx,fun x hx=>by rw[Qvh]at hx⊢;show((s.2.1++[_]).any _)=true;rw[Yb5,hx];rfl⟩;refine⟨h.mt,Qfd hg hn,h.c1,h.c2,Qj8 h.a1 ⟨Qtg (Y1 h0 _ (by simp)),hc,Qpz (Y1 h0 _ (by simp)),Qtg (Y1 h0 _ (by simp))⟩,Qn6 h.a2 fun y hy=>Qtz ha y hy,fun x hx=>(h.l1 x hx).more mo,fun x hx=>(h.e1 x hx).more mo,h.e2,fun x hx=>(h.t1 x hx).more mo,h.t2⟩
theorem Zm9{n:Nat}{m:Mt}{s:Qi}{b:Q0}(h:X0 m s)(hg:GrS n (Qax s b))(hn:n<=256)(h0:Yz (b.1,Y9,b.2)=0)(hl:Qbc s b=0):X0 m (Qax s b):=by
 have h0:Z5 true false false false true true false false true b=0:=h0;have ha:0<=aI s b.2.1:=by
  unfold Qbc at hl;by_cases q:aI s b.2.1<0
  ·rw[if_pos q]at hl;cases hl
  ·omega
 have d1:=Qpz (Y1 h0 (Yp b.2.2.2.2.2.1) (by simp));have d2:=Qpz (Y1 h0 (Yp b.2.2.2.2.2.2.1) (by simp));have d3:=Y1 h0 (Qd9 b) (by simp);have hsp:Qp3 b.2.2.2.2.2.1 b.2.2.2.2.2.2.1=0:=by unfold Qp3;rw[d1,d2];exact d3
 exact⟨h.mt,Qfd hg hn,h.c1,h.c2,h.a1,h.a2,Qj8 h.l1 ⟨ha,hsp⟩,h.e1,h.e2,h.t1,h.t2⟩
theorem Zq3{n:Nat}{m:Mt}{s:Qi}{b:Q0}(h:X0 m s)(hg:GrS n (Ui s b))(hn:n<=256)(h0:Yz (b.1,Ym,b.2)=0)(hl:Kj s b=0):X0 m (Ui s b):=by
 unfold Kj at hl;have ha:0<=aI s b.2.1:=by
  by_cases q:aI s b.2.1<0
  ·rw[if_pos q]at hl;cases hl
  ·omega
 rw[if_neg (by omega)]at hl;have hc:hasB s.1 b.2.2.1=true:=by
  cases q:hasB s.1 b.2.2.1 with
  |true=>rfl
  |false=>rw[if_neg (by rw[q];decide)]at hl;cases hl
 obtain⟨k,y,e,hk,hy,hp⟩:=Wl ha;have hat:Yv s b.2.1=y:=by unfold Yv;rw[show(aI s b.2.1).toNat=k by unfold aI;omega];exact getD_some hy
 have hkey:∀z,s.2.1[(aI s b.2.1).toNat]? =some z->((Yv s b.2.1).1,b.2.2.1,(Yv s b.2.1).2.2.1,(Yv s b.2.1).2.2.2).1=z.1:=fun z hz=>by rw[show(aI s b.2.1).toNat=k by unfold aI;omega,hy]at hz;cases hz;rw[hat]
 have hmap:=Zlf (fun z:Ath=>z.1) hkey;have hany:∀(l:List Ath) (x:ByteArray),(l.any fun y=>Qc y.1 x)=((l.map fun z=>z.1).any fun z=>Qc z x):=fun l x=>by rw[List.any_map];rfl
 have mo:Qgh s (Ui s b):=⟨fun x hx=>hx,fun x hx=>by rw[Qvh]at hx⊢;rw[hany]at hx⊢;show((List.map (fun z:Ath=>z.1) (s.2.1.set _ _)).any _)=true;rw[hmap];exact hx⟩;have hyo:=h.a1 y (ZP hy);refine⟨h.mt,Qfd hg hn,h.c1,h.c2,Qxv h.a1 ?_,Qx9 (R:=fun a b=>Qc a b=false) (fun z:Ath=>z.1) hkey h.a2,fun x hx=>(h.l1 x hx).more mo,fun x hx=>(h.e1 x hx).more mo,h.e2,fun x hx=>(h.t1 x hx).more mo,h.t2⟩;rw[hat];exact⟨hyo.1,hc,hyo.2.2.1,hyo.2.2.2⟩
theorem Zn0{n:Nat}{m:Mt}{s:Qi}{b:Q0}(h:X0 m s)(hg:GrS n (Qa9 s b))(hn:n<=256)(h0:Yz (b.1,Xd,b.2)=0)(hl:Qa1 m s b=0):X0 m (Qa9 s b):=by
 have hmk:=Zjb h0;have h0:Z5 true false false true false false true false false b=0:=h0;have hd:=Qpz (Y1 h0 (Yp b.1) (by simp[Z5]));unfold Qa1 at hl;by_cases q1:aI s b.2.1<0∨cI m b.2.2.2.2.1<0
 ·rw[if_pos q1]at hl;cases hl
 rw[if_neg q1]at hl;by_cases q2:0<(Zh m b.2.2.2.2.1).2.2.2.2.2.2.2.2.2.2
 ·rw[if_pos q2]at hl;cases hl
 rw[if_neg q2]at hl;by_cases q3:b.1<m.2.1∨m.2.2.1<b.1
 ·rw[if_pos q3]at hl;cases hl
 rw[if_neg q3]at hl;by_cases q4:0<=eI s b.2.1 b.2.2.2.2.1
 ·rw[if_pos q4]at hl;cases hl
 rw[if_neg q4]at hl;by_cases q5:elE m s (Zh m b.2.2.2.2.1) b.2.1=0
 ·rw[if_pos q5]at hl;by_cases q6:Jj (Zh m b.2.2.2.2.1).2.1 b.2.2.2.2.2.2.2.1=true
  ·exact⟨h.mt,Qfd hg hn,h.c1,h.c2,h.a1,h.a2,h.l1,Qj8 h.e1 ⟨by(show 0<=aI s b.2.1;omega),by(show 0<=cI m b.2.2.2.2.1;omega),q2,hmk,q6,hd⟩,Qn6 h.e2 fun y hy=>Qtz (show Xc (eP b.2.1 b.2.2.2.2.1) s.2.2.2.1<0 from by unfold eI at q4;omega) y hy,h.t1,h.t2⟩
  ·rw[if_neg q6]at hl;cases hl
 ·rw[if_neg q5]at hl;exact absurd hl q5
theorem Yru{n:Nat}{m:Mt}{s:Qi}{b:Q0}(h:X0 m s)(hl:Ub m s b=0):X0 m (Qb6 s b):=by
 have hx:0<=eI s b.2.1 b.2.2.2.2.1:=by unfold Ub at hl;split at hl<;>omega
 obtain⟨k,y,e,hk,hy,hp⟩:=Wl hx;refine(Qoa m _).1 (Ynj ((Qoa m s).2 h) (k:=(eI s b.2.1 b.2.2.2.2.1).toNat) ?_);rw[show(eI s b.2.1 b.2.2.2.2.1).toNat=k by unfold eI;omega];exact hk
theorem Zrc{n:Nat}{m:Mt}{s:Qi}{b:Q0}(h:X0 m s)(hg:GrS n (Qag s b))(hn:n<=256)(hl:Ua m s b=0):X0 m (Qag s b):=by
 have hx:0<=eI s b.2.1 b.2.2.2.2.1:=by unfold Ua at hl;split at hl<;>omega
 obtain⟨k,y,e,hk,hy,hp⟩:=Wl hx;have ek:(eI s b.2.1 b.2.2.2.2.1).toNat=k:=by unfold eI;omega
 have hat:Vg s b.2.1 b.2.2.2.2.1=y:=by unfold Vg;rw[ek];exact getD_some hy
 have hkey:∀z,s.2.2.2.1[(eI s b.2.1 b.2.2.2.2.1).toNat]? =some z->((Qko (Vg s b.2.1 b.2.2.2.2.1)).1,(Qko (Vg s b.2.1 b.2.2.2.2.1)).2.1)=(z.1,z.2.1):=fun z hz=>by rw[ek,hy]at hz;cases hz;rw[hat];rfl
 have hyo:=h.e1 y (ZP hy);exact⟨h.mt,Qfd hg hn,h.c1,h.c2,h.a1,h.a2,h.l1,Qxv h.e1 (by rw[hat];exact hyo),Qx9 (R:=fun a b:ByteArray×ByteArray=>(Qc a.1 b.1&&Qc a.2 b.2)=false) (fun z:Qq=>(z.1,z.2.1)) hkey h.e2,h.t1,h.t2⟩
theorem Zti{n:Nat}{m:Mt}{s:Qi}{b:Q0}(h:X0 m s)(hg:GrS n (U3 s b))(hn:n<=256)(hl:Qae m s b=0):X0 m (U3 s b):=by
 unfold Qae at hl;by_cases q1:hasB s.1 b.2.2.1=false∨cI m b.2.2.2.2.1<0
 ·rw[if_pos q1]at hl;cases hl
 rw[if_neg q1]at hl;by_cases q2:(Zh m b.2.2.2.2.1).2.2.2.2.2.2.2.2.2.2=0
 ·rw[if_pos q2]at hl;cases hl
 rw[if_neg q2]at hl;by_cases q3:m.1<b.1
 ·rw[if_pos q3]at hl;cases hl
 rw[if_neg q3]at hl;by_cases q4:(b.2.2.2.2.2.2.2.2.2.2.length:Int)=(Zh m b.2.2.2.2.1).2.2.2.2.2.2.2.2.2.2
 ·rw[if_pos q4]at hl;have hc:hasB s.1 b.2.2.1=true:=by
   cases q:hasB s.1 b.2.2.1 with
   |true=>rfl
   |false=>exact absurd (.inl q) q1
  have hr:Qn ((ZB b.2.2.2.2.2.2.2.2.2.2.length).map (Qln s b.2.2.2.2.2.2.2.2.2.2))=0:=Qjc fun e he=>by
   obtain⟨i,hi,rfl⟩:=ZA.1 he;have:=Y1 hl _ (ZA.2 ⟨i,hi,rfl⟩);unfold teE at this;unfold Qln;by_cases p1:aI s (b.2.2.2.2.2.2.2.2.2.2.getD i ByteArray.empty)<0
   ·rw[if_pos p1]at this;cases this
   ·rw[if_neg p1]at this⊢;by_cases p2:Qc (Yv s (b.2.2.2.2.2.2.2.2.2.2.getD i ByteArray.empty)).2.1 b.2.2.1=true
    ·rw[if_pos p2]at this;by_cases p3:hasB (b.2.2.2.2.2.2.2.2.2.2.take i) (b.2.2.2.2.2.2.2.2.2.2.getD i ByteArray.empty)=true
     ·rw[if_pos p3]at this;cases this
     ·rw[if_neg p3]
    ·rw[if_neg p2]at this;cases this
  have hrun:=(Zlv s b.2.2.2.2.2.2.2.2.2.2).1 hr;have hnew:Qd1 m s (b.2.2.1,b.2.2.2.2.1,b.2.2.2.2.2.2.2.2.2.2):=⟨hc,by show 0<=cI m b.2.2.2.2.1;omega,q2,q4,hrun.1,hrun.2⟩;have hmany:=Qfd hg hn;unfold U3 at hmany⊢;by_cases q5:tI s b.2.2.1 b.2.2.2.2.1<0
  ·rw[if_pos q5]at hmany⊢;exact⟨h.mt,hmany,h.c1,h.c2,h.a1,h.a2,h.l1,h.e1,h.e2,Qj8 h.t1 hnew,Qn6 h.t2 fun y hy=>Qtz q5 y hy⟩
  ·rw[if_neg q5]at hmany⊢;have q5':0<=tI s b.2.2.1 b.2.2.2.2.1:=by omega
   obtain⟨k,y,e,hk,hy,hp⟩:=Wl q5';have ek:(tI s b.2.2.1 b.2.2.2.2.1).toNat=k:=by unfold tI;omega
   have hkey:∀z,s.2.2.2.2[(tI s b.2.2.1 b.2.2.2.2.1).toNat]? =some z->(b.2.2.1,b.2.2.2.2.1)=(z.1,z.2.1):=fun z hz=>by rw[ek,hy]at hz;cases hz;have hp':(Qc y.1 b.2.2.1&&Qc y.2.1 b.2.2.2.2.1)=true:=hp;rw[Bool.and_eq_true]at hp';rw[Yy.1 hp'.1,Yy.1 hp'.2]
   exact⟨h.mt,hmany,h.c1,h.c2,h.a1,h.a2,h.l1,h.e1,h.e2,Qxv h.t1 hnew,Qx9 (R:=fun a b:ByteArray×ByteArray=>(Qc a.1 b.1&&Qc a.2 b.2)=false) (fun z:Tm=>(z.1,z.2.1)) hkey h.t2⟩
 ·rw[if_neg q4]at hl;cases hl
theorem Zqg{n:Nat}{m:Mt}{s:Qi}{a:Ya}(h:X0 m s)(hg:GrS n s)(hn:n+1<=256)(ha:Zz (a.1,a.2.2))(h0:Yz a=0)(hl:lgA m s a=0):X0 m (nxA s a):=by
 have hg':=Zg1 hg ha;obtain⟨d,k,r⟩:=a;rcases Zjz h0 with e|e|e|e|e|e|e|e<;>obtain rfl:k=_:=e
 ·exact Yp1 (b:=(d,r)) h hg' hn h0 hl
 ·exact Zqn (b:=(d,r)) h hg' hn h0 hl
 ·exact Zm9 (b:=(d,r)) h hg' hn h0 hl
 ·exact Zq3 (b:=(d,r)) h hg' hn h0 hl
 ·exact Zn0 (b:=(d,r)) h hg' hn h0 hl
 ·exact Yru (n:=n) (b:=(d,r)) h hl
 ·exact Zrc (b:=(d,r)) h hg' hn hl
 ·exact Zti (b:=(d,r)) h hg' hn hl
theorem Zqc{m:Mt}(hv:Z4 m=0):X0 m zS:=⟨hv,by unfold K2;decide,fun _ h=>(by cases h),.nil,fun _ h=>(by cases h),.nil,fun _ h=>(by cases h),fun _ h=>(by cases h),.nil,fun _ h=>(by cases h),.nil⟩
theorem Zhx{α:Type}[DecidableEq α]:∀(l m:List α),l.Nodup->(∀x∈l,x∈m)->l.length<=m.length
 |[],m,_,_=>Nat.zero_le _
 |x::l,m,h,hm=>by
  rw[ZQ]at h;have hx:=hm x (J ..);have ih:=Zhx l (m.erase x) h.2 fun y hy=>by have hy':=hm y (o _ hy);have hne:y≠x:=fun e=>h.1 (e▸hy);exact(List.mem_erase_of_ne hne).2 hy'
  rw[List.length_erase_of_mem hx]at ih;have:0<m.length:=List.length_pos_of_mem hx;rw[ZL];omega
def X6(s:Qi)(c:ByteArray):List ByteArray:=(X5 s c).map (·.1)
theorem Qhw{m:Mt}{s:Qi}(h:X0 m s)(c:ByteArray):(X6 s c).Nodup:=by
 have hp:((V0 s c).map (·.1)).Nodup:=by unfold List.Nodup;rw[ZE];have h2:=h.e2.filter (fun e:Qq=>Qc e.2.1 c);refine List.Pairwise.imp_of_mem ?_ h2;intro x y hx hy e he;have hx':=(ZR.1 hx).2;have hy':=(ZR.1 hy).2;unfold eP at e;rw[Yy.1 hx',Yy.1 hy',he,Ku,Ku]at e;cases e
 exact(((Qgc (V0 s c)).map (·.1)).nodup_iff).2 hp
theorem Qxb{m:Mt}{s:Qi}(h:X0 m s){c x:ByteArray}(hx:x∈X6 s c):x∈s.2.1.map (·.1):=by obtain⟨e,he,rfl⟩:=ZA.1 hx;have h1:=Zkz ((Qoa m s).2 h) e he;rw[Qvh,List.any_eq_true]at h1;obtain⟨y,hy,e2⟩:=h1;exact ZA.2 ⟨y,hy,Yy.1 e2⟩
theorem Yo6{m:Mt}{s:Qi}(h:X0 m s):(s.2.1.map (·.1)).Nodup:=by unfold List.Nodup;rw[ZE];refine h.a2.imp fun{x y} e he=>?_;rw[he,Ku]at e;cases e
theorem Yia{m:Mt}{s:Qi}(h:X0 m s)(c:ByteArray):(V0 s c).length<=s.2.1.length:=by have h1:=Zhx (X6 s c) (s.2.1.map (·.1)) (Qhw h c) fun x hx=>Qxb h hx;unfold X6 X5 at h1;rw[ZM,ZM,Qd3]at h1;exact h1
theorem Ztq(s:Qi)(a:Ya):(nxA s a).2.1.length+(nxA s a).2.2.2.1.length<=s.2.1.length+s.2.2.2.1.length+1:=by
 unfold nxA;split
 ·simp only[U8];omega
 split
 ·simp only[U2,ZG,ZO];omega
 split
 ·simp only[Qax];omega
 split
 ·simp only[Ui,ZS];omega
 split
 ·simp only[Qa9,ZG,ZO];omega
 split
 ·simp only[Qb6,ZG,List.length_take,List.length_drop];omega
 split
 ·simp only[Qag,ZS];omega
 split
 ·unfold U3;split<;>simp only<;>omega
 ·omega
theorem Zlr{m:Mt}:∀(l:List Ya) (x:Rp),(l.foldl (rpS m) x).1.2.1.length+(l.foldl (rpS m) x).1.2.2.2.1.length<=x.1.2.1.length+x.1.2.2.2.1.length+l.length
 |[],x=>Nat.le_refl _
 |a::l,x=>by
  have ih:=Zlr (m:=m) l (rpS m x a);have h:=Ztq x.1 a;rw[ZT,ZL];have h2:(rpS m x a).1.2.1.length+(rpS m x a).1.2.2.2.1.length<=x.1.2.1.length+x.1.2.2.2.1.length+1:=by
   unfold rpS;by_cases e:rpE m x.1 x.2.2.1 a=0
   ·simp only[e,if_true];exact h
   ·simp only[e,if_false];omega
  omega
theorem Zjx{m:Mt}:∀(l:List Ya) (i:Nat) (x:Rp),X0 m x.1->RpI i x->i+l.length<=256->(∀a∈l,Zz (a.1,a.2.2))->(∀a∈l,Yz a=0)->X0 m (l.foldl (rpS m) x).1
 |[],i,x,h,_,_,_,_=>h
 |a::l,i,x,h,hI,hn,hs,he=>by
  rw[ZL]at hn;rw[ZT];refine Zjx l (i+1) (rpS m x a) ?_ (Qo6 hI (hs a (J ..))) (by omega) (fun b hb=>hs b (o _ hb)) (fun b hb=>he b (o _ hb));unfold rpS;by_cases e:rpE m x.1 x.2.2.1 a=0
  ·simp only[e,if_true];exact Zqg h hI.g (by omega) (hs a (J ..)) (he a (J ..)) (Qxd e).2
  ·simp only[e,if_false];exact h
structure ByA (m:Mt) (s:Qi):Prop where
 ok:X0 m s
 g:GrS 24 s
 n:s.2.1.length+s.2.2.2.1.length<=24
theorem ByA.sm{m:Mt}{s:Qi}(h:ByA m s):Zr s:=h.g.sm (by decide)
theorem ByA.st{m:Mt}{s:Qi}(h:ByA m s):stE m s=0:=(Qoa m s).2 h.ok
theorem ByA.sel{m:Mt}{s:Qi}(h:ByA m s)(c:ByteArray):(V0 s c).length<=20:=by have h1:=Yia h.ok c;have h2:=Zru s c;have:=h.n;omega
theorem ByA.list{m:Mt}{s:Qi}(h:ByA m s)(c:ByteArray):(X5 s c).length<=20:=by unfold X5;rw[Qd3];exact h.sel c
theorem ByA.l139{m:Mt}{s:Qi}(h:ByA m s)(c:ByteArray){F:Nat}(hF:400<=F):Qd5 F (s,c)=some (X5 s c):=
 Go.Proofs.Tryz.l139 hF h.sm (h.sel c) (Zad h.st c Zbu)
theorem Ztk{m:Mt}(hv:Z4 m=0){l:List Ya}(hn:l.length<=24)(hs:∀a∈l,Zz (a.1,a.2.2))(he:∀a∈l,Yz a=0):ByA m (l.foldl (rpS m) rp0).1:=by have h1:=Qpc (m:=m) Qhv hs;have h2:=Zlr (m:=m) l rp0;rw[Nat.zero_add]at h1;refine⟨Zjx l 0 rp0 (Zqc hv) Qhv (by omega) hs he,h1.g.mono hn,Nat.le_trans h2 ?_⟩;have:rp0.1.2.1.length+rp0.1.2.2.2.1.length=0:=rfl;omega
def Ye(d:Dv)(k:ByteArray):Int:=if hasB d.2.1 k=true then 1 else if hasB d.1 k=true then 2 else 0
theorem Qwk{V:Type}{k:ByteArray}:∀{M:List (ByteArray×V)},Wd Qc k M=true↔k∈M.map (·.1)
 |[]=>by simp[Yjx]
 |e::M=>by rw[Ycp,ZJ,ZK,Bool.or_eq_true,Qwk,Yy]
theorem Zjp{V:Type}{k:ByteArray}{x:V}:∀{M:List (ByteArray×V)},k∉M.map (·.1)->Ji Qc k x M=M++[(k,x)]
 |[],_=>by rw[Zfw];rfl
 |e::M,h=>by rw[ZJ,ZK]at h;have h1:Qc k e.1=false:=Qf7 fun e=>h (.inl e);rw[Zje,h1,Zjp fun e=>h (.inr e)];rfl
theorem Qy5{V:Type}{z:V}:∀{M:List (ByteArray×V)} {e:ByteArray×V},(M.map (·.1)).Nodup->e∈M->Y5 Qc e.1 M z=e.2
 |y::M,e,hn,h=>by
  rw[ZJ,ZQ]at hn;rw[Qe4];rcases ZK.1 h with rfl|h
  ·rw[Ku,if_pos rfl]
  ·have hne:e.1≠y.1:=fun e2=>hn.1 (e2▸ZA.2 ⟨e,h,rfl⟩);rw[Qf7 hne,if_neg (by decide)];exact Qy5 hn.2 h
theorem Zbc{V:Type}{z:V}{k:ByteArray}:∀{M:List (ByteArray×V)},k∉M.map (·.1)->Y5 Qc k M z=z
 |[],_=>Zln
 |y::M,h=>by rw[ZJ,ZK]at h;have h1:Qc k y.1=false:=Qf7 fun e=>h (.inl e);rw[Qe4,h1,if_neg (by decide)];exact Zbc fun e=>h (.inr e)
structure PlR (ids:List ByteArray) (d:Dv) (M:List (ByteArray×Bool)):Prop where
 k:M.map (·.1)=ids
 v:∀e∈M,e.2=hasB d.2.1 e.1
 a:∀k,k∈d.2.1∨k∈d.1↔k∈ids
theorem PlR.step{ids:List ByteArray}{d:Dv}{M:List (ByteArray×Bool)}(h:PlR ids d M){s:Qi}{P C:Int}{x:Qq}(hx:x.1∉ids):PlR (ids++[x.1]) (Y3 s P C d x) (Ji Qc x.1 (inD s P C d x) M):=by
 have hk:x.1∉M.map (·.1):=by rw[h.k];exact hx
 rw[Zjp hk];have hxa:x.1∉d.2.1:=fun h2=>hx ((h.a _).1 (.inl h2));have hv:∀e∈M,hasB (d.2.1++[x.1]) e.1=hasB d.2.1 e.1:=fun e he=>by have hne:x.1≠e.1:=fun e2=>hk (e2▸ZA.2 ⟨e,he,rfl⟩);rw[Quc,Qf7 hne,Bool.or_false]
 refine⟨?_,?_,?_⟩
 ·rw[ZN,h.k];rfl
 ·intro e he;unfold Y3;rcases Qlm he with he|rfl
  ·cases inD s P C d x
   ·rw[if_neg (by decide)];exact h.v e he
   ·rw[if_pos rfl];show e.2=hasB (d.2.1++[x.1]) e.1;rw[hv e he];exact h.v e he
  ·cases inD s P C d x
   ·rw[if_neg (by decide)];exact(Zjd.2 hxa).symm
   ·rw[if_pos rfl];show true=hasB (d.2.1++[x.1]) x.1;rw[Quc,Ku,Bool.or_true]
 ·intro k;have:=h.a k;unfold Y3;cases inD s P C d x
  ·rw[if_neg (by decide)];simp only[ZU,ZF,<-this,or_assoc]
  ·rw[if_pos rfl];simp only[ZU,ZF,<-this];constructor
   ·rintro ((h|h)|h)
    ·exact .inl (.inl h)
    ·exact .inr h
    ·exact .inl (.inr h)
   ·rintro ((h|h)|h)
    ·exact .inl (.inl h)
    ·exact .inr h
    ·exact .inl (.inr h)
theorem PlR.has{ids:List ByteArray}{d:Dv}{M:List (ByteArray×Bool)}(h:PlR ids d M)(k:ByteArray):Wd Qc k M= !decide (Ye d k=0):=by
 have h1:=h.a k;have h2:Wd Qc k M=true↔k∈ids:=by rw[Qwk,h.k]
 rw[<-h1,<-Qey,<-Qey]at h2;unfold Ye;cases e1:hasB d.2.1 k<;>cases e2:hasB d.1 k<;>simp[e1,e2]at h2⊢ <;>exact h2
theorem PlR.get{ids:List ByteArray}{d:Dv}{M:List (ByteArray×Bool)}(h:PlR ids d M)(hn:ids.Nodup)(k:ByteArray):Y5 Qc k M false=decide (Ye d k=1):=by
 have hw:decide (Ye d k=1)=hasB d.2.1 k:=by unfold Ye;cases hasB d.2.1 k<;>cases hasB d.1 k<;>rfl
 rw[hw];by_cases hk:k∈M.map (·.1)
 ·obtain⟨e,he,rfl⟩:=ZA.1 hk;rw[Qy5 (by rw[h.k];exact hn) he,h.v e he]
 ·rw[Zbc hk];refine(Zjd.2 fun h2=>hk ?_).symm;rw[h.k];exact(h.a k).1 (.inl h2)
theorem Zg0(d:Dv)(k:ByteArray):Ye d k=0∨Ye d k=1∨Ye d k=2:=by
 unfold Ye;split
 ·exact .inr (.inl rfl)
 ·split
  ·exact .inr (.inr rfl)
  ·exact .inl rfl
theorem Zsf(s:Qi)(P C:Int)(l:List Qq)(x:Qq):Vm s P C (l++[x])=Y3 s P C (Vm s P C l) x:=by unfold Vm;rw[List.foldl_append];rfl
theorem Zj7{α S O β:Type}{step:O->Option (O ⊕ β)}(l:List α)(enc:S->Nat->O)(f:S->α->S)(fin:S->β)(I:Nat->S->Prop)
  (hstep:∀i x s,i<l.length->l[i]? =some x->I i s->step (enc s i)=some (.inl (enc (f s x) (i+1)))∧I (i+1) (f s x))
  (hend:∀s,I l.length s->step (enc s l.length)=some (.inr (fin s))):∀(n i:Nat) (F:Nat) (s:S),n+i=l.length->I i s->n<F->∃s',I l.length s'∧Qw step F (enc s i)=some (fin s')
 |0,i,F+1,s,hn,hI,hF=>by
  obtain rfl:i=l.length:=by omega
  refine⟨s,hI,?_⟩;simp only[Qw,hend s hI]
 |n+1,i,F+1,s,hn,hI,hF=>by
  have hi:i<l.length:=by omega
  obtain⟨h1,h2⟩:=hstep i l[i] s hi (U hi) hI;obtain⟨s',h3,h4⟩:=Zj7 l enc f fin I hstep hend n (i+1) F (f s l[i]) (by omega) h2 (by omega);refine⟨s',h3,?_⟩;simp only[Qw,h1];exact h4
abbrev Pq:=List (ByteArray×Bool)×List (ByteArray×Int)×Dv
def pqS(s:Qi)(P C:Int)(q:Pq)(x:Qq):Pq:=(Ji Qc x.1 (inD s P C q.2.2 x) q.1,if inD s P C q.2.2 x=true then Ji Qc (X2 s x.1) (Y5 Qc (X2 s x.1) q.2.1 0+1) q.2.1 else q.2.1,Y3 s P C q.2.2 x)
structure PqI (s:Qi) (P C:Int) (L:List Qq) (i:Nat) (q:Pq):Prop where
 d:q.2.2=Vm s P C (L.take i)
 p:PlR ((L.take i).map (·.1)) q.2.2 q.1
 m:Qgp q.2.1 q.2.2.2.2
 n:q.2.2.1.length+q.2.2.2.1.length=i
 c:q.2.2.2.1.length=q.2.2.2.2.length
theorem Yhu{s:Qi}{P C:Int}{L:List Qq}(hn:(L.map (·.1)).Nodup){i:Nat}{x:Qq}{q:Pq}(hx:L[i]? =some x)(h:PqI s P C L i q):PqI s P C L (i+1) (pqS s P C q x):=by
 have ht:L.take (i+1)=L.take i++[x]:=(Yea hx).symm;have hnx:x.1∉(L.take i).map (·.1):=by
  have h1:((L.take (i+1)).map (·.1)).Nodup:=by rw[List.map_take];exact hn.sublist (List.take_sublist _ _)
  rw[ht,ZN,List.nodup_append]at h1;intro h2;exact h1.2.2 _ h2 x.1 (by simp) rfl
 obtain⟨M,Q,r,a,cl⟩:=q;obtain⟨h1,h2,h3,h4,h5⟩:=h;have k:=Qw4 s P C (r,a,cl) x;refine⟨?_,?_,?_,?_,?_⟩
 ·show Y3 s P C (r,a,cl) x=_;rw[ht,Zsf,<-h1]
 ·show PlR ((L.take (i+1)).map (·.1)) (Y3 s P C (r,a,cl) x) (Ji Qc x.1 (inD s P C (r,a,cl) x) M);rw[ht,ZN];exact h2.step hnx
 ·show Qgp (if inD s P C (r,a,cl) x=true then Ji Qc (X2 s x.1) (Y5 Qc (X2 s x.1) Q 0+1) Q else Q) (Y3 s P C (r,a,cl) x).2.2;unfold Y3;cases inD s P C (r,a,cl) x
  ·simp only[Bool.false_eq_true,if_false];exact h3
  ·simp only[if_true];exact Qgp.put h3 _
 ·show(Y3 s P C (r,a,cl) x).1.length+(Y3 s P C (r,a,cl) x).2.1.length=i+1;have h4:r.length+a.length=i:=h4;have k1:=k.1;simp only at k1;omega
 ·exact k.2.2 h5
theorem Ymq(s:Qi)(P C:Int)(L:List Qq):PqI s P C L 0 ([],[],[],[],[]):=
 ⟨rfl,⟨rfl,fun _ h=>(by cases h),fun k=>by simp⟩,fun k=>by simp[Zln,U7],rfl,rfl⟩
end Go.Proofs.Tryz
