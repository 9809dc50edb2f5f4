/- A state that is valid stays valid behind a legal act. Plain: the acts one after another: the state, the acts that are accepted, and the refusals. And further parts. -/
import Derived.Test.YtpkbmngnolhopaaGreatDoorXTeR2
import Derived.Test.YtpkbmngnolhopaaGreatDoorXT3f
import Derived.Test.YtpkbmngnolhopaaGreatDoorXT3i
import Derived.Test.YtpkbmngnolhopaaGreatDoorXTeD62
import Derived.Test.YtpkbmngnolhopaaGreatDoorXT3z
import Derived.Test.YtpkbmngnolhopaaGreatDoorXTeR
set_option maxRecDepth 100000
set_option linter.unusedVariables false
set_option linter.unusedSimpArgs false
set_option linter.all false
open List renaming mem_cons_of_mem->o,getElem?_eq_getElem->C,mem_of_getElem?->J,mem_cons_self->ZB,foldl_append->ZC,range->ZD,any_eq_false->ZE,foldl_cons->ZH,pairwise_iff_getElem->ZJ,mem_take_iff_getElem->ZK,mem_map->ZL,length_singleton->ZM,foldl_nil->ZN,length_append->ZO,pairwise_map->ZP,mem_range->ZQ
open Option renaming bind_some->I
open Int renaming toNat_natCast->U
open Bool renaming not_true->ZA,eq_false_iff->ZF,and_self->ZG,true_and->ZR
open Nat renaming le_trans->ZI
namespace Go.Proofs.Tryz
open Go Go.Sx
theorem Qiz{α:Type}{l:List α}{ok:α->Prop}{same:α->α->Bool}{fE:Nat->Int}(h:∀i x,l[i]? =some x->(fE i=0↔ok x∧(l.take i).any (same x)=false)):
  Qk ((ZD l.length).map fE)=0↔(∀x∈l,ok x)∧l.Pairwise fun x y=>same y x=false:=by
 constructor
 ·intro h0;have hz:∀i x,l[i]? =some x->fE i=0:=fun i x hx=>X1 h0 _ (ZL.2 ⟨i,ZQ.2 (List.getElem?_eq_some_iff.1 hx).1,rfl⟩);refine⟨fun x hx=>?_,?_⟩
  ·obtain⟨i,hi⟩:=List.getElem?_of_mem hx;exact((h i x hi).1 (hz i x hi)).1
  ·rw[ZJ];intro i j hi hj hij;have:=((h j _ (C hj)).1 (hz j _ (C hj))).2;rw[ZE]at this;exact ZF.2 (this _ (ZK.2 ⟨i,by omega,rfl⟩))
 ·rintro ⟨h1,h2⟩
  refine Qhj fun e he=>?_;obtain⟨i,hi,rfl⟩:=ZL.1 he;have hi:=ZQ.1 hi;refine(h i _ (C hi)).2 ⟨h1 _ (List.getElem_mem hi),?_⟩;rw[ZE];intro y hy;obtain⟨k,hk,rfl⟩:=ZK.1 hy;have:=ZJ.1 h2 k i (by omega) hi (by omega);exact ZF.1 this
def Qfg(s:Qj)(y:Ath):Prop:=Y3 y.1=true∧hasB s.1 y.2.1=true∧Yj y.2.2.1=false∧Y3 y.2.2.2=true
def Qfj(s:Qj)(y:Lic):Prop:=0<=aI s y.1∧Qck y.2.1 y.2.2=0
def Qfi(m:Mt)(s:Qj)(y:Zo):Prop:=0<=aI s y.1∧0<=cI m y.2.1∧¬ 0<(Z3 m y.2.1).2.2.2.2.2.2.2.2.2.2∧Jq y.2.2.1 y.2.2.2.1 y.2.2.2.2.1=0∧Jo (Z3 m y.2.1).2.1 y.2.2.1=true∧Yj y.2.2.2.2.2.1=false
def Qcz(m:Mt)(s:Qj)(y:Tm):Prop:=hasB s.1 y.1=true∧0<=cI m y.2.1∧(Z3 m y.2.1).2.2.2.2.2.2.2.2.2.2≠0∧(y.2.2.length:Int)=(Z3 m y.2.1).2.2.2.2.2.2.2.2.2.2∧(∀z∈y.2.2,0<=aI s z)∧y.2.2.Pairwise fun a b=>Qc a b=false
structure Jp (m:Mt) (s:Qj):Prop where
 mt:Yg m=0
 many:¬Wm s
 c1:∀x∈s.1,Y3 x=true
 c2:s.1.Pairwise fun x y=>Qc x y=false
 a1:∀x∈s.2.1,Qfg s x
 a2:s.2.1.Pairwise fun x y=>Qc x.1 y.1=false
 l1:∀x∈s.2.2.1,Qfj s x
 e1:∀x∈s.2.2.2.1,Qfi m s x
 e2:s.2.2.2.1.Pairwise fun x y=>eP y.1 y.2.1 x=false
 t1:∀x∈s.2.2.2.2,Qcz m s x
 t2:s.2.2.2.2.Pairwise fun x y=>tP y.1 y.2.1 x=false
theorem Zi6(l:List ByteArray):Qk ((ZD l.length).map (Kg l))=0↔(∀x∈l,Y3 x=true)∧l.Pairwise fun x y=>Qc x y=false:=by refine Qiz (ok:=fun x=>Y3 x=true) (same:=fun x y=>Qc y x) fun i x hx=>?_;unfold Kg;rw[getD_some hx];have e:((l.take i).any fun y=>Qc y x)=hasB (l.take i) x:=rfl;rw[e];cases Y3 x<;>cases hasB (l.take i) x<;>simp
theorem Zav(s:Qj):Qk ((ZD s.2.1.length).map (V7 s))=0↔(∀x∈s.2.1,Qfg s x)∧s.2.1.Pairwise fun x y=>Qc x.1 y.1=false:=by refine Qiz (ok:=Qfg s) (same:=fun x y=>Qc y.1 x.1) fun i x hx=>?_;unfold V7 Qfg;rw[getD_some hx];generalize ((s.2.1.take i).any fun y=>Qc y.1 x.1)=b;cases Y3 x.1<;>cases b<;>cases hasB s.1 x.2.1<;>cases Yj x.2.2.1<;>cases Y3 x.2.2.2<;>simp
theorem Zj0(s:Qj):Qk ((ZD s.2.2.1.length).map (Vu s))=0↔∀x∈s.2.2.1,Qfj s x:=by
 have h:=Qiz (l:=s.2.2.1) (ok:=Qfj s) (same:=fun _ _=>false) (fE:=Vu s) (fun i x hx=>by
  unfold Vu Qfj;rw[getD_some hx];by_cases h:aI s x.1<0
  ·simp[h];omega
  ·simp[h];omega)
 rw[h];exact⟨fun h=>h.1,fun h=>⟨h,List.pairwise_of_forall fun _ _=>rfl⟩⟩
theorem Zck(m:Mt)(s:Qj):Qk ((ZD s.2.2.2.1.length).map (Wn m s))=0↔(∀x∈s.2.2.2.1,Qfi m s x)∧s.2.2.2.1.Pairwise fun x y=>eP y.1 y.2.1 x=false:=by
 refine Qiz (ok:=Qfi m s) (same:=fun x y=>eP x.1 x.2.1 y) fun i x hx=>?_;unfold Wn Qfi;rw[getD_some hx];have e:((s.2.2.2.1.take i).any fun y=>eP x.1 x.2.1 y)=(s.2.2.2.1.take i).any (eP x.1 x.2.1):=rfl;rw[e];generalize (s.2.2.2.1.take i).any (eP x.1 x.2.1)=b;by_cases h1:aI s x.1<0
 ·simp[h1];omega
 ·by_cases h2:cI m x.2.1<0
  ·simp[h2];omega
  ·have h1':0<=aI s x.1:=by omega
   have h2':0<=cI m x.2.1:=by omega
   by_cases h3:0<(Z3 m x.2.1).2.2.2.2.2.2.2.2.2.2
   ·simp[h1,h2,h3]
   ·by_cases h4:Jq x.2.2.1 x.2.2.2.1 x.2.2.2.2.1=0
    ·cases b<;>cases Jo (Z3 m x.2.1).2.1 x.2.2.1<;>cases Yj x.2.2.2.2.2.1<;>simp[h1,h2,h3,h4,h1',h2']
    ·cases b<;>simp[h1,h2,h3,h4]
theorem Zgw(s:Qj)(l:List ByteArray):Qk ((ZD l.length).map (V6 s l))=0↔(∀z∈l,0<=aI s z)∧l.Pairwise fun a b=>Qc a b=false:=by
 refine Qiz (ok:=fun z=>0<=aI s z) (same:=fun x y=>Qc y x) fun i x hx=>?_;unfold V6;rw[getD_some hx];have e:((l.take i).any fun y=>Qc y x)=hasB (l.take i) x:=rfl;rw[e];by_cases h:aI s x<0
 ·simp[h];omega
 ·have h':0<=aI s x:=by omega
  cases hasB (l.take i) x<;>simp[h,h']
theorem Zbi(m:Mt)(s:Qj):Qk ((ZD s.2.2.2.2.length).map (Kj m s))=0↔(∀x∈s.2.2.2.2,Qcz m s x)∧s.2.2.2.2.Pairwise fun x y=>tP y.1 y.2.1 x=false:=by
 refine Qiz (ok:=Qcz m s) (same:=fun x y=>tP x.1 x.2.1 y) fun i x hx=>?_;unfold Kj Qcz;rw[getD_some hx];have hr:=Zgw s x.2.2;have e:((s.2.2.2.2.take i).any fun y=>tP x.1 x.2.1 y)=(s.2.2.2.2.take i).any (tP x.1 x.2.1):=rfl;rw[e];generalize (s.2.2.2.2.take i).any (tP x.1 x.2.1)=b;by_cases h2:cI m x.2.1<0
 ·simp[h2];omega
 ·have h2':0<=cI m x.2.1:=by omega
  cases hasB s.1 x.1 with
  |false=>simp
  |true=>
   by_cases h3:(Z3 m x.2.1).2.2.2.2.2.2.2.2.2.2=0
   ·simp[h2,h3]
   ·by_cases h4:(x.2.2.length:Int)=(Z3 m x.2.1).2.2.2.2.2.2.2.2.2.2
    ·cases b with
     |true=>simp[h2,h3]
     |false=>rw[if_neg (by simp[h2]),if_neg h3,if_neg (by simp),if_pos h4,hr];simp[h2',h3,h4]
    ·cases b<;>simp[h2,h3,h4]
theorem Qpd(m:Mt)(s:Qj):Yi m s=0↔Jp m s:=by
 unfold Yi;constructor
 ·intro h;by_cases h1:Yg m=0
  ·rw[if_pos h1]at h;by_cases h2:Wm s
   ·rw[if_pos h2]at h;cases h
   ·rw[if_neg h2]at h;have g0:=(Zi6 s.1).1 (X1 h _ (ZB ..));have g1:=(Zav s).1 (X1 h _ (o _ (ZB ..)));have g2:=(Zj0 s).1 (X1 h _ (o _ (o _ (ZB ..))));have g3:=(Zck m s).1 (X1 h _ (o _ (o _ (o _ (ZB ..)))));have g4:=(Zbi m s).1 (X1 h _ (o _ (o _ (o _ (o _ (ZB ..))))));exact⟨h1,h2,g0.1,g0.2,g1.1,g1.2,g2,g3.1,g3.2,g4.1,g4.2⟩
  ·rw[if_neg h1]at h;exact absurd h h1
 ·intro h;rw[if_pos h.mt,if_neg h.many,(Zi6 s.1).2 ⟨h.c1,h.c2⟩,(Zav s).2 ⟨h.a1,h.a2⟩,(Zj0 s).2 h.l1,(Zck m s).2 ⟨h.e1,h.e2⟩,(Zbi m s).2 ⟨h.t1,h.t2⟩];rfl
theorem Zjn(s:Qj)(x:ByteArray):0<=aI s x↔(s.2.1.any fun y=>Qc y.1 x)=true:=by unfold aI;rw[<-Qky,decide_eq_true_eq]
theorem Zqh{α:Type}(p:α->Bool)(l:List α)(x:α):(l++[x]).any p=(l.any p||p x):=by simp
theorem Qp9{α:Type}{R:α->α->Prop}{l:List α}{x:α}(h:l.Pairwise R)(hx:∀y∈l,R y x):(l++[x]).Pairwise R:=by rw[List.pairwise_append];exact⟨h,List.pairwise_singleton ..,fun a ha b hb=>by rw[List.mem_singleton.1 hb];exact hx a ha⟩
theorem Qh4{α:Type}{Q:α->Prop}{l:List α}{x:α}(h:∀y∈l,Q y)(hx:Q x):∀y∈l++[x],Q y:=fun y hy=>(Qrt hy).elim (h y) fun e=>e▸hx
structure Qim (s s':Qj):Prop where
 c:∀x,hasB s.1 x=true->hasB s'.1 x=true
 a:∀x,0<=aI s x->0<=aI s' x
theorem Qfg.more{s s':Qj}(hc:∀x,hasB s.1 x=true->hasB s'.1 x=true){y:Ath}(h:Qfg s y):Qfg s' y:=⟨h.1,hc _ h.2.1,h.2.2.1,h.2.2.2⟩
theorem Qfj.more{s s':Qj}(h2:Qim s s'){y:Lic}(h:Qfj s y):Qfj s' y:=⟨h2.a _ h.1,h.2⟩
theorem Qfi.more{m:Mt}{s s':Qj}(h2:Qim s s'){y:Zo}(h:Qfi m s y):Qfi m s' y:=⟨h2.a _ h.1,h.2⟩
theorem Qcz.more{m:Mt}{s s':Qj}(h2:Qim s s'){y:Tm}(h:Qcz m s y):Qcz m s' y:=⟨h2.c _ h.1,h.2.1,h.2.2.1,h.2.2.2.1,fun z hz=>h2.a _ (h.2.2.2.2.1 z hz),h.2.2.2.2.2⟩
theorem Qg6{s:Qj}{n:Nat}(h:GrS n s)(hn:n<=256):¬Wm s:=by have h1:=h.c;have h2:=h.a;have h3:=h.l;have h4:=h.e;have h5:=h.t;unfold Wm;omega
theorem Zee{α κ:Type}(key:α->κ){l:List α}{k:Nat}{x:α}(hk:∀y,l[k]? =some y->key x=key y):(l.set k x).map key=l.map key:=by
 rw[List.map_set];by_cases h:k<l.length
 ·have:=hk _ (C h);exact set_self (by rw[List.getElem?_map,C h,this];rfl)
 ·exact List.set_eq_of_length_le (by rw[List.length_map];omega)
theorem Qzy{α κ:Type}{R:κ->κ->Prop}(key:α->κ){l:List α}{k:Nat}{x:α}(hk:∀y,l[k]? =some y->key x=key y)(h:l.Pairwise fun a b=>R (key a) (key b)):(l.set k x).Pairwise fun a b=>R (key a) (key b):=by rw[<-ZP (f:=key) (R:=R),Zee key hk,ZP];exact h
theorem Qty{α:Type}{Q:α->Prop}{l:List α}{k:Nat}{x:α}(h:∀y∈l,Q y)(hx:Q x):∀y∈l.set k x,Q y:=fun y hy=>by
 rcases List.mem_or_eq_of_mem_set hy with hy|rfl
 ·exact h y hy
 ·exact hx
theorem Qtr{x:ByteArray}(h:Yf x=0):Y3 x=true:=by
 unfold Yf at h;by_cases q:Y3 x=true
 ·exact q
 ·rw[if_neg q]at h;cases h
theorem Qny{n:Int}(h:Yw n=0):Yj n=false:=by
 unfold Yw at h;cases q:Yj n with
 |false=>rfl
 |true=>rw[if_pos q]at h;cases h
theorem Qtv{α:Type}{p:α->Bool}{l:List α}(h:Y9 p l<0):∀y∈l,p y=false:=by have:=Qky p l;rw[decide_eq_false (by omega)]at this;have:=ZE.1 this.symm;exact fun y hy=>ZF.2 (this y hy)
theorem Ypb{n:Nat}{m:Mt}{s:Qj}{b:Qx}(h:Jp m s)(hg:GrS n (Jy s b))(hn:n<=256)(h0:Z1 (b.1,Yl,b.2)=0)(hl:Wx s b=0):Jp m (Jy s b):=by
 have h0:Z4 false true false false false false false false false b=0:=h0;have hc:hasB s.1 b.2.2.1=false:=by
  unfold Wx at hl;cases q:hasB s.1 b.2.2.1 with
  |false=>rfl
  |true=>rw[if_pos q]at hl;cases hl
 have hx:=ZE.1 hc;have mo:Qim s (Jy s b):=⟨fun x hx=>by(show hasB (s.1++[b.2.2.1]) x=true;rw[Yem,hx];rfl),fun x hx=>hx⟩;exact⟨h.mt,Qg6 hg hn,Qh4 h.c1 (Qtr (X1 h0 _ (by simp))),Qp9 h.c2 fun y hy=>ZF.2 (hx y hy),fun x hx=>(h.a1 x hx).more mo.c,h.a2,fun x hx=>(h.l1 x hx).more mo,fun x hx=>(h.e1 x hx).more mo,h.e2,fun x hx=>(h.t1 x hx).more mo,h.t2⟩
theorem Zuu{n:Nat}{m:Mt}{s:Qj}{b:Qx}(h:Jp m s)(hg:GrS n (Jw s b))(hn:n<=256)(h0:Z1 (b.1,Yh,b.2)=0)(hl:Wy s b=0):Jp m (Jw s b):=by
 have h0:Z4 true true true false true false false false false b=0:=h0;unfold Wy at hl;have hc:hasB s.1 b.2.2.1=true:=by
  cases q:hasB s.1 b.2.2.1 with
  |true=>rfl
  |false=>rw[if_neg (by rw[q];decide)]at hl;cases hl
 rw[if_pos hc]at hl;have ha:aI s b.2.1<0:=by
  by_cases q:0<=aI s b.2.1
  ·rw[if_pos q]at hl;cases hl
  ·omega
 have mo:Qim s (Jw s b):=⟨fun x hx=>hx,fun x hx=>by rw[Zjn]at hx⊢;show((s.2.1++[_]).any _)=true;rw[Zqh,hx];rfl⟩;refine⟨h.mt,Qg6 hg hn,h.c1,h.c2,Qh4 h.a1 ⟨Qtr (X1 h0 _ (by simp)),hc,Qny (X1 h0 _ (by simp)),Qtr (X1 h0 _ (by simp))⟩,Qp9 h.a2 fun y hy=>Qtv ha y hy,fun x hx=>(h.l1 x hx).more mo,fun x hx=>(h.e1 x hx).more mo,h.e2,fun x hx=>(h.t1 x hx).more mo,h.t2⟩
theorem Zxb{n:Nat}{m:Mt}{s:Qj}{b:Qx}(h:Jp m s)(hg:GrS n (J5 s b))(hn:n<=256)(h0:Z1 (b.1,Yt,b.2)=0)(hl:Wp s b=0):Jp m (J5 s b):=by
 have h0:Z4 true false false false true true false false true b=0:=h0;have ha:0<=aI s b.2.1:=by
  unfold Wp at hl;by_cases q:aI s b.2.1<0
  ·rw[if_pos q]at hl;cases hl
  ·omega
 have d1:=Qny (X1 h0 (Yw b.2.2.2.2.2.1) (by simp));have d2:=Qny (X1 h0 (Yw b.2.2.2.2.2.2.1) (by simp));have d3:=X1 h0 (Qc5 b) (by simp);have hsp:Qck b.2.2.2.2.2.1 b.2.2.2.2.2.2.1=0:=by unfold Qck;rw[d1,d2];exact d3
 exact⟨h.mt,Qg6 hg hn,h.c1,h.c2,h.a1,h.a2,Qh4 h.l1 ⟨ha,hsp⟩,h.e1,h.e2,h.t1,h.t2⟩
theorem Yk1{n:Nat}{m:Mt}{s:Qj}{b:Qx}(h:Jp m s)(hg:GrS n (Ju s b))(hn:n<=256)(h0:Z1 (b.1,Yc,b.2)=0)(hl:Jm s b=0):Jp m (Ju s b):=by
 unfold Jm at hl;have ha:0<=aI s b.2.1:=by
  by_cases q:aI s b.2.1<0
  ·rw[if_pos q]at hl;cases hl
  ·omega
 rw[if_neg (by omega)]at hl;have hc:hasB s.1 b.2.2.1=true:=by
  cases q:hasB s.1 b.2.2.1 with
  |true=>rfl
  |false=>rw[if_neg (by rw[q];decide)]at hl;cases hl
 obtain⟨k,y,e,hk,hy,hp⟩:=W1 ha;have hat:Y1 s b.2.1=y:=by unfold Y1;rw[show(aI s b.2.1).toNat=k by unfold aI;omega];exact getD_some hy
 have hkey:∀z,s.2.1[(aI s b.2.1).toNat]? =some z->((Y1 s b.2.1).1,b.2.2.1,(Y1 s b.2.1).2.2.1,(Y1 s b.2.1).2.2.2).1=z.1:=fun z hz=>by rw[show(aI s b.2.1).toNat=k by unfold aI;omega,hy]at hz;cases hz;rw[hat]
 have hmap:=Zee (fun z:Ath=>z.1) hkey;have hany:∀(l:List Ath) (x:ByteArray),(l.any fun y=>Qc y.1 x)=((l.map fun z=>z.1).any fun z=>Qc z x):=fun l x=>by rw[List.any_map];rfl
 have mo:Qim s (Ju s b):=⟨fun x hx=>hx,fun x hx=>by rw[Zjn]at hx⊢;rw[hany]at hx⊢;show((List.map (fun z:Ath=>z.1) (s.2.1.set _ _)).any _)=true;rw[hmap];exact hx⟩;have hyo:=h.a1 y (J hy);refine⟨h.mt,Qg6 hg hn,h.c1,h.c2,Qty h.a1 ?_,Qzy (R:=fun a b=>Qc a b=false) (fun z:Ath=>z.1) hkey h.a2,fun x hx=>(h.l1 x hx).more mo,fun x hx=>(h.e1 x hx).more mo,h.e2,fun x hx=>(h.t1 x hx).more mo,h.t2⟩;rw[hat];exact⟨hyo.1,hc,hyo.2.2.1,hyo.2.2.2⟩
theorem Yf6{n:Nat}{m:Mt}{s:Qj}{b:Qx}(h:Jp m s)(hg:GrS n (Wa s b))(hn:n<=256)(h0:Z1 (b.1,Yq,b.2)=0)(hl:Wq m s b=0):Jp m (Wa s b):=by
 have hmk:=Qrr h0;have h0:Z4 true false false true false false true false false b=0:=h0;have hd:=Qny (X1 h0 (Yw b.1) (by simp[Z4]));unfold Wq at hl;by_cases q1:aI s b.2.1<0∨cI m b.2.2.2.2.1<0
 ·rw[if_pos q1]at hl;cases hl
 rw[if_neg q1]at hl;by_cases q2:0<(Z3 m b.2.2.2.2.1).2.2.2.2.2.2.2.2.2.2
 ·rw[if_pos q2]at hl;cases hl
 rw[if_neg q2]at hl;by_cases q3:b.1<m.2.1∨m.2.2.1<b.1
 ·rw[if_pos q3]at hl;cases hl
 rw[if_neg q3]at hl;by_cases q4:0<=eI s b.2.1 b.2.2.2.2.1
 ·rw[if_pos q4]at hl;cases hl
 rw[if_neg q4]at hl;by_cases q5:elE m s (Z3 m b.2.2.2.2.1) b.2.1=0
 ·rw[if_pos q5]at hl;by_cases q6:Jo (Z3 m b.2.2.2.2.1).2.1 b.2.2.2.2.2.2.2.1=true
  ·exact⟨h.mt,Qg6 hg hn,h.c1,h.c2,h.a1,h.a2,h.l1,Qh4 h.e1 ⟨by(show 0<=aI s b.2.1;omega),by(show 0<=cI m b.2.2.2.2.1;omega),q2,hmk,q6,hd⟩,Qp9 h.e2 fun y hy=>Qtv (show Y9 (eP b.2.1 b.2.2.2.2.1) s.2.2.2.1<0 from by unfold eI at q4;omega) y hy,h.t1,h.t2⟩
  ·rw[if_neg q6]at hl;cases hl
 ·rw[if_neg q5]at hl;exact absurd hl q5
theorem Yo8{n:Nat}{m:Mt}{s:Qj}{b:Qx}(h:Jp m s)(hl:Jz m s b=0):Jp m (Wj s b):=by
 have hx:0<=eI s b.2.1 b.2.2.2.2.1:=by unfold Jz at hl;split at hl<;>omega
 obtain⟨k,y,e,hk,hy,hp⟩:=W1 hx;refine(Qpd m _).1 (Zxo ((Qpd m s).2 h) (k:=(eI s b.2.1 b.2.2.2.2.1).toNat) ?_);rw[show(eI s b.2.1 b.2.2.2.2.1).toNat=k by unfold eI;omega];exact hk
theorem Zny{n:Nat}{m:Mt}{s:Qj}{b:Qx}(h:Jp m s)(hg:GrS n (J9 s b))(hn:n<=256)(hl:J1 m s b=0):Jp m (J9 s b):=by
 have hx:0<=eI s b.2.1 b.2.2.2.2.1:=by unfold J1 at hl;split at hl<;>omega
 obtain⟨k,y,e,hk,hy,hp⟩:=W1 hx;have ek:(eI s b.2.1 b.2.2.2.2.1).toNat=k:=by unfold eI;omega
 have hat:Vs s b.2.1 b.2.2.2.2.1=y:=by unfold Vs;rw[ek];exact getD_some hy
 have hkey:∀z,s.2.2.2.1[(eI s b.2.1 b.2.2.2.2.1).toNat]? =some z->((Qlq (Vs s b.2.1 b.2.2.2.2.1)).1,(Qlq (Vs s b.2.1 b.2.2.2.2.1)).2.1)=(z.1,z.2.1):=fun z hz=>by rw[ek,hy]at hz;cases hz;rw[hat];rfl
 have hyo:=h.e1 y (J hy);exact⟨h.mt,Qg6 hg hn,h.c1,h.c2,h.a1,h.a2,h.l1,Qty h.e1 (by rw[hat];exact hyo),Qzy (R:=fun a b:ByteArray×ByteArray=>(Qc a.1 b.1&&Qc a.2 b.2)=false) (fun z:Zo=>(z.1,z.2.1)) hkey h.e2,h.t1,h.t2⟩
theorem Ybj{n:Nat}{m:Mt}{s:Qj}{b:Qx}(h:Jp m s)(hg:GrS n (Ji s b))(hn:n<=256)(hl:Wu m s b=0):Jp m (Ji s b):=by
 unfold Wu at hl;by_cases q1:hasB s.1 b.2.2.1=false∨cI m b.2.2.2.2.1<0
 ·rw[if_pos q1]at hl;cases hl
 rw[if_neg q1]at hl;by_cases q2:(Z3 m b.2.2.2.2.1).2.2.2.2.2.2.2.2.2.2=0
 ·rw[if_pos q2]at hl;cases hl
 rw[if_neg q2]at hl;by_cases q3:m.1<b.1
 ·rw[if_pos q3]at hl;cases hl
 rw[if_neg q3]at hl;by_cases q4:(b.2.2.2.2.2.2.2.2.2.2.length:Int)=(Z3 m b.2.2.2.2.1).2.2.2.2.2.2.2.2.2.2
 ·rw[if_pos q4]at hl;have hc:hasB s.1 b.2.2.1=true:=by
   cases q:hasB s.1 b.2.2.1 with
   |true=>rfl
   |false=>exact absurd (.inl q) q1
  have hr:Qk ((ZD b.2.2.2.2.2.2.2.2.2.2.length).map (V6 s b.2.2.2.2.2.2.2.2.2.2))=0:=Qhj fun e he=>by
   obtain⟨i,hi,rfl⟩:=ZL.1 he;have:=X1 hl _ (ZL.2 ⟨i,hi,rfl⟩);unfold teE at this;unfold V6;by_cases p1:aI s (b.2.2.2.2.2.2.2.2.2.2.getD i ByteArray.empty)<0
   ·rw[if_pos p1]at this;cases this
   ·rw[if_neg p1]at this⊢;by_cases p2:Qc (Y1 s (b.2.2.2.2.2.2.2.2.2.2.getD i ByteArray.empty)).2.1 b.2.2.1=true
    ·rw[if_pos p2]at this;by_cases p3:hasB (b.2.2.2.2.2.2.2.2.2.2.take i) (b.2.2.2.2.2.2.2.2.2.2.getD i ByteArray.empty)=true
     ·rw[if_pos p3]at this;cases this
     ·rw[if_neg p3]
    ·rw[if_neg p2]at this;cases this
  have hrun:=(Zgw s b.2.2.2.2.2.2.2.2.2.2).1 hr;have hnew:Qcz m s (b.2.2.1,b.2.2.2.2.1,b.2.2.2.2.2.2.2.2.2.2):=⟨hc,by show 0<=cI m b.2.2.2.2.1;omega,q2,q4,hrun.1,hrun.2⟩;have hmany:=Qg6 hg hn;unfold Ji at hmany⊢;by_cases q5:tI s b.2.2.1 b.2.2.2.2.1<0
  ·rw[if_pos q5]at hmany⊢;exact⟨h.mt,hmany,h.c1,h.c2,h.a1,h.a2,h.l1,h.e1,h.e2,Qh4 h.t1 hnew,Qp9 h.t2 fun y hy=>Qtv q5 y hy⟩
  ·rw[if_neg q5]at hmany⊢;have q5':0<=tI s b.2.2.1 b.2.2.2.2.1:=by omega
   obtain⟨k,y,e,hk,hy,hp⟩:=W1 q5';have ek:(tI s b.2.2.1 b.2.2.2.2.1).toNat=k:=by unfold tI;omega
   have hkey:∀z,s.2.2.2.2[(tI s b.2.2.1 b.2.2.2.2.1).toNat]? =some z->(b.2.2.1,b.2.2.2.2.1)=(z.1,z.2.1):=fun z hz=>by rw[ek,hy]at hz;cases hz;have hp':(Qc y.1 b.2.2.1&&Qc y.2.1 b.2.2.2.2.1)=true:=hp;rw[Bool.and_eq_true]at hp';rw[Xr.1 hp'.1,Xr.1 hp'.2]
   exact⟨h.mt,hmany,h.c1,h.c2,h.a1,h.a2,h.l1,h.e1,h.e2,Qty h.t1 hnew,Qzy (R:=fun a b:ByteArray×ByteArray=>(Qc a.1 b.1&&Qc a.2 b.2)=false) (fun z:Tm=>(z.1,z.2.1)) hkey h.t2⟩
 ·rw[if_neg q4]at hl;cases hl
theorem Zg0{n:Nat}{m:Mt}{s:Qj}{a:Yk}(h:Jp m s)(hg:GrS n s)(hn:n+1<=256)(ha:Zs (a.1,a.2.2))(h0:Z1 a=0)(hl:lgA m s a=0):Jp m (nxA s a):=by
 have hg':=Qw7 hg ha;obtain⟨d,k,r⟩:=a;rcases Qt4 h0 with e|e|e|e|e|e|e|e<;>obtain rfl:k=_:=e
 ·exact Ypb (b:=(d,r)) h hg' hn h0 hl
 ·exact Zuu (b:=(d,r)) h hg' hn h0 hl
 ·exact Zxb (b:=(d,r)) h hg' hn h0 hl
 ·exact Yk1 (b:=(d,r)) h hg' hn h0 hl
 ·exact Yf6 (b:=(d,r)) h hg' hn h0 hl
 ·exact Yo8 (n:=n) (b:=(d,r)) h hl
 ·exact Zny (b:=(d,r)) h hg' hn hl
 ·exact Ybj (b:=(d,r)) h hg' hn hl
theorem Zfu{m:Mt}(hv:Yg m=0):Jp m zS:=⟨hv,by unfold Wm;decide,fun _ h=>(by cases h),.nil,fun _ h=>(by cases h),.nil,fun _ h=>(by cases h),fun _ h=>(by cases h),.nil,fun _ h=>(by cases h),.nil⟩
theorem Zby{m:Mt}:∀(l:List Yk) (x:Rp),∃t,(l.foldl (Zw m) x).2.1=x.2.1++t
 |[],x=>⟨[],(List.append_nil _).symm⟩
 |a::l,x=>by
  obtain⟨t,h⟩:=Zby l (Zw m x a);rw[ZH,h];unfold Zw;by_cases e:rpE m x.1 x.2.2.1 a=0
  ·simp only[e,if_true];exact⟨t,rfl⟩
  ·simp only[e,if_false,List.append_assoc];exact⟨_,rfl⟩
abbrev Q7:=Qj×List Yk×Int×Int
def q7S(m:Mt)(q:Q7)(a:Yk):Q7:=
 (if rpE m q.1 q.2.2.1 a=0 then nxA q.1 a else q.1,if rpE m q.1 q.2.2.1 a=0 then q.2.1++[a]else q.2.1,if q.2.2.1<a.1 then a.1 else q.2.2.1,if rpE m q.1 q.2.2.1 a=0 then q.2.2.2 else q.2.2.2+1)
structure I7 (m:Mt) (l:List Yk) (i:Nat) (q:Q7):Prop where
 s:q.1=((l.take i).foldl (Zw m) Ys).1
 d:q.2.2.1=((l.take i).foldl (Zw m) Ys).2.2.1
 n:q.2.2.2=(((l.take i).foldl (Zw m) Ys).2.1.length:Int)
 ok:Jp m q.1
 c1:(q.2.1.foldl (Zw m) Ys).1=q.1
 c2:(q.2.1.foldl (Zw m) Ys).2.1=[]
 c3:(q.2.1.foldl (Zw m) Ys).2.2.1<=q.2.2.1
 c4:∀a∈q.2.1,a∈l
 c5:q.2.1.length<=i
theorem Qes{m:Mt}{l:List Yk}{i:Nat}{a:Yk}(ha:l[i]? =some a):(l.take (i+1)).foldl (Zw m) Ys=Zw m ((l.take i).foldl (Zw m) Ys) a:=by rw[<-Zlm ha,ZC];rfl
theorem Zhe{m:Mt}{l:List Yk}{i:Nat}{q:Q7}{a:Yk}(h:I7 m l i q)(hg:GrS i q.1)(hi:i+1<=256)(ha:l[i]? =some a)(hs:Zs (a.1,a.2.2))(h0:Z1 a=0):I7 m l (i+1) (q7S m q a):=by
 have hE:rpE m q.1 q.2.2.1 a=rpE m ((l.take i).foldl (Zw m) Ys).1 ((l.take i).foldl (Zw m) Ys).2.2.1 a:=by rw[h.s,h.d]
 have hmem:=J ha;by_cases e:rpE m q.1 q.2.2.1 a=0
 ·have e':=hE▸e;obtain⟨g1,g2⟩:=Qtu e;have hc:rpE m (q.2.1.foldl (Zw m) Ys).1 (q.2.1.foldl (Zw m) Ys).2.2.1 a=0:=by unfold rpE;have:=h.c3;rw[if_neg (by omega),h.c1];exact g2
  refine⟨?_,?_,?_,?_,?_,?_,?_,?_,?_⟩
  ·rw[Qes ha];show(if rpE m q.1 q.2.2.1 a=0 then nxA q.1 a else q.1)=(if rpE m ((l.take i).foldl (Zw m) Ys).1 ((l.take i).foldl (Zw m) Ys).2.2.1 a=0 then nxA ((l.take i).foldl (Zw m) Ys).1 a else((l.take i).foldl (Zw m) Ys).1);rw[<-h.s,<-h.d]
  ·rw[Qes ha];simp only[q7S,Zw,h.d]
  ·rw[Qes ha];simp only[q7S,Zw,e,e',if_true,h.n]
  ·simp only[q7S,e,if_true];exact Zg0 h.ok hg hi hs h0 g2
  ·simp only[q7S,e,if_true,ZC,ZH,ZN];show(if rpE m (q.2.1.foldl (Zw m) Ys).1 (q.2.1.foldl (Zw m) Ys).2.2.1 a=0 then nxA (q.2.1.foldl (Zw m) Ys).1 a else(q.2.1.foldl (Zw m) Ys).1)=nxA q.1 a;rw[if_pos hc,h.c1]
  ·simp only[q7S,e,if_true,ZC,ZH,ZN];simp only[Zw,hc,if_true,h.c2]
  ·simp only[q7S,e,if_true,ZC,ZH,ZN];simp only[Zw];have:=h.c3;split<;>split<;>omega
  ·simp only[q7S,e,if_true];exact Qh4 h.c4 hmem
  ·simp only[q7S,e,if_true,ZO,ZM];have:=h.c5;omega
 ·have e':¬rpE m ((l.take i).foldl (Zw m) Ys).1 ((l.take i).foldl (Zw m) Ys).2.2.1 a=0:=hE▸e;refine⟨?_,?_,?_,?_,?_,?_,?_,?_,?_⟩
  ·rw[Qes ha];show(if rpE m q.1 q.2.2.1 a=0 then nxA q.1 a else q.1)=(if rpE m ((l.take i).foldl (Zw m) Ys).1 ((l.take i).foldl (Zw m) Ys).2.2.1 a=0 then nxA ((l.take i).foldl (Zw m) Ys).1 a else((l.take i).foldl (Zw m) Ys).1);rw[<-h.s,<-h.d]
  ·rw[Qes ha];simp only[q7S,Zw,h.d]
  ·rw[Qes ha];simp only[q7S,Zw,e,e',if_false,h.n,ZO,ZM];rfl
  ·simp only[q7S,e,if_false];exact h.ok
  ·simp only[q7S,e,if_false];exact h.c1
  ·simp only[q7S,e,if_false];exact h.c2
  ·simp only[q7S,e,if_false];have:=h.c3;split<;>omega
  ·simp only[q7S,e,if_false];exact h.c4
  ·simp only[q7S,e,if_false];exact Nat.le_succ_of_le h.c5
theorem Zap{m:Mt}(hv:Yg m=0){l:List Yk}(ho:Qvl l):∀k,k<=l.length->I7 m l k ((l.take k).foldl (q7S m) (zS,[],0,0))
 |0,_=>⟨rfl,rfl,rfl,Zfu hv,rfl,rfl,Int.le_refl _,fun _ h=>(by cases h),Nat.le_refl _⟩
 |k+1,hk=>by
  have hI:=Zap hv ho k (by omega);have ha:l[k]? =some (l[k]'(by omega)):=C (by omega);have hmem:=J ha;have hgi:GrS k ((l.take k).foldl (q7S m) (zS,[],0,0)).1:=by have:=(Qib (m:=m) (l:=l.take k) Qi1 (fun a ha=>ho.s a (List.mem_of_mem_take ha))).g;rw[Nat.zero_add,List.length_take,Nat.min_eq_left (by omega)]at this;rw[hI.s];exact this
  have hn:=ho.n;have:=Zhe hI hgi (by omega) ha (ho.s _ hmem) (ho.e _ hmem);rw[<-Zlm ha,ZC];exact this
theorem Qyh(b:ByteArray):(b==b)=true:=by
 cases b with
 |mk d=>show(d==d)=true;simp
theorem l74{F:Nat}{l:List Zo}(hF:l.length<F)(hl:l.length<=100000):c74 F (l,l)=some true:=by
 unfold c74;simp only[tE,decide_true,ZA,cond_false];refine Jh l (fun(_:Unit) i=>(i:Int)) (fun _ _=>(.inl ():Unit ⊕ (Bool ⊕ Unit))) (fun _=>.inr ()) (fun _ _=>True) () hF rfl trivial ?_ ?_ ?_
 ·intro i x _ hi hx _;refine⟨?_,fun _ _=>trivial⟩;simp(disch:=omega)only[Zx,Zf,U,getD_some hx,Zv,Qyh,decide_true,beq_self_eq_true,ZG,ZA,cond_false];rfl
 ·intro _ _;simp(disch:=omega)only[Zz]
 ·rw[Qir];rfl
theorem l76{F:Nat}(hF4:400<=F){l:List Tm}(hF:l.length<F)(hl:l.length<=100000)(hr:∀x∈l,x.2.2.length<=300):c76 F (l,l)=some true:=by
 have hd:YB=dT:=rfl;unfold c76;simp only[hd,decide_true,ZA,cond_false];refine Jh l (fun(_:Unit) i=>(i:Int)) (fun _ _=>(.inl ():Unit ⊕ (Bool ⊕ Unit))) (fun _=>.inr ()) (fun _ _=>True) () hF rfl trivial ?_ ?_ ?_
 ·intro i x _ hi hx _;refine⟨?_,fun _ _=>trivial⟩;have hn:=hr x (J hx);simp(disch:=omega)only[Zx,Zf,U,getD_some hx,Zv,K9,l44 (F:=F) (l:=x.2.2) (by omega) (by omega),I,ZA,cond_false];rfl
 ·intro _ _;simp(disch:=omega)only[Zz]
 ·rw[Qir];rfl
end Go.Proofs.Tryz
section
namespace Go.Proofs.Tryz
open Go Go.Sx
end Go.Proofs.Tryz
end
namespace Go.Proofs.Tryz
open Go Go.Sx
theorem l33{F:Nat}(hF:400<=F){s:Qj}(h:Jg s)(hr:∀t∈s.2.2.2.2,t.2.2.length<=300):c33 F (s,s)=some true:=by
 obtain⟨h1,h2,h3,h4,h5⟩:=h;have hd:Zy=dA:=rfl;have hd2:YP=dL:=rfl;unfold c33;simp only[Q3,hd,hd2,l44 (F:=F) (l:=s.1) (by omega) (by omega),l74 (F:=F) (l:=s.2.2.2.1) (by omega) (by omega),l76 hF (l:=s.2.2.2.2) (by omega) (by omega) hr,decide_true,ZA,cond_false,I];refine Jh s.2.1 (fun(_:Unit) i=>(i:Int)) (fun _ _=>(.inl ():Unit ⊕ (Bool ⊕ Unit))) (fun _=>.inr ()) (fun _ _=>True) () (by omega) rfl trivial ?_ ?_ ?_
 ·intro i x _ hi hx _;refine⟨?_,fun _ _=>trivial⟩;simp(disch:=omega)only[Zx,Zf,U,getD_some hx,Zv,Qyh,decide_true,ZG,ZA,cond_false];rfl
 ·intro _ _;simp(disch:=omega)only[Zz]
 ·rw[Qir];simp only[Sum.elim_inr];refine Jh s.2.2.1 (fun(_:Unit) i=>(i:Int)) (fun _ _=>(.inl ():Unit ⊕ (Bool ⊕ Unit))) (fun _=>.inr ()) (fun _ _=>True) () (by omega) rfl trivial ?_ ?_ ?_
  ·intro i x _ hi hx _;refine⟨?_,fun _ _=>trivial⟩;simp(disch:=omega)only[Zx,Zf,U,getD_some hx,Zv,Qyh,decide_true,ZG,ZA,cond_false];rfl
  ·intro _ _;simp(disch:=omega)only[Zz]
  ·rw[Qir];rfl
theorem Zhv{F:Nat}(hF:400<=F){s:Qj}(h:Jg s):c16 F s=some s:=l16 ⟨by have:=h.l;omega,by have:=h.e;omega,by have:=h.t;omega⟩ ⟨by have:=h.l;omega,by have:=h.e;omega,by have:=h.t;omega⟩
end Go.Proofs.Tryz
section

end
namespace Go.Proofs.Tryz
open Go Go.Sx
noncomputable def c4(F:Nat)(a:(Zc)×List (Qz)):Option (Bool):=
 (c15 F a.1).bind fun(v42:Zc)=>(c27 F a.2).bind fun(v43:List (Qz))=>((c17 F v42).bind fun(v56:Bool)=>bif !v56 then(some (true))else((c28 F (v43,(24:Int))).bind fun(v57:Bool)=>some (!v57))).bind fun(v44:Bool)=>bif v44 then(some (true))else((c29 F (a.1,a.2)).bind fun(v45:(Qh)×List (Int×Int)×Int)=>(c22 F v42).bind fun(v46:Int)=>(c31 F v43).bind fun(v47:Int)=>(c30 F (v46::v47::Qa Int)).bind fun(v48:Int)=>(bif decide (v48=0)then((c32 F (v42,v43)).bind fun(v55:(Qh)×List (Int×Int))=>some ((v55.1,v55.2)))else(some (((Qa ByteArray,Qa (Qs),Qa (Qw),Qa (Qi),Qa (Qv)),Qa (Int×Int))))).bind fun(v49:(Qh)×List (Int×Int))=>(bif decide (v45.2.2=v48)then((c16 F v45.1).bind fun(v51:Qh)=>(c33 F (v51,v49.1.1,v49.1.2.1,v49.1.2.2.1,v49.1.2.2.2.1,v49.1.2.2.2.2)).bind fun(v52:Bool)=>bif v52 then((c35 F v45.2.1).bind fun(v53:List (Int×Int))=>(c34 F (v53,v49.2)).bind fun(v54:Bool)=>bif v54 then(some (true))else(some (false)))else(some (false)))else(some (false))).bind fun(v50:Bool)=>some (v50))
abbrev atL:Qe:=.val (.seq [.int .i64,.str,.str,.str,.str,.str,.int .i64,.int .i64,.str,.int .i64,.str,.seq Z9])
theorem okL{l:List Yk}(h:Qe.ok atL l):l.length*168<=140737488351232∧∀a∈l,a.2.2.2.2.2.2.2.2.2.2.2.length*16<=140737488351232:=by obtain⟨h1,h2⟩:=h;refine⟨h1,fun a ha=>?_⟩;exact(h2 a ha).2.2.2.2.2.2.2.2.2.2.2.1
theorem l27{F:Nat}{l:List Yk}(hF:l.length<F)(hb:l.length*168<=140737488355328):c27 F l=some l:=by
 have e:∀y:Yk,y::Qa Yk=[y]:=fun _=>rfl;have hd:YA=dA3:=rfl;unfold c27;simp only[hd];refine Jh l (fun out i=>(out,(i:Int))) (fun x out=>.inl (out++[x])) (fun out=>out) (fun i out=>out.length=i) (Qa Yk) hF rfl rfl ?_ ?_ ?_
 ·intro i x out hi hx ho;have hl2:(out++[x]).length=i+1:=by simp[ho]
  refine⟨?_,fun s' hs=>?_⟩
  ·simp(disch:=omega)only[Zx,Zf,U,getD_some hx,Zv,Q3,e,hl2,ho,decide_true,ZG,ZR,Zh,I];rfl
  ·simp only[Sum.inl.injEq]at hs;subst hs;exact hl2
 ·intro out ho;simp(disch:=omega)only[Zz,ho,decide_true,ZG,ZR,Zh,I]
 ·rw[Qjd (fun x:Yk=>x)];simp[Qa,Zh]
structure ShL (n:Nat) (l:List Yk):Prop where
 n:l.length<=n∨(256<l.length∧l.length<=259)
 s:∀a∈l,Zs (a.1,a.2.2)
theorem l28{F:Nat}(hF:400<=F){l:List Yk}(hl:l.length<F)(hb:l.length*168<=140737488355328){n:Nat}(hn:n<=256):∃b,c28 F (l,(n:Int))=some b∧(b=true->ShL n l):=by
 have hd:YA=dA3:=rfl;unfold c28;simp only[hd];rw[l78 F _ _ _ (by omega)];by_cases h0:(l.length:Int)<=(n:Int)∨(256:Int)<l.length∧(l.length:Int)<=256+3
 ·simp only[h0,decide_true,ZA,cond_false,I];refine Qu0 l (fun a=>Zs (a.1,a.2.2)) (fun b:Bool ⊕ Unit=>b=.inl false∨(b=.inr ()∧∀x∈l,Zs (x.1,x.2.2))) hl ?_ ?_ ?_
  ·intro i x hi hx;obtain⟨b,h1,h2⟩:=l19 hF x;simp(disch:=omega)only[Zx,Zf,U,getD_some hx,Zv,Q3,h1,I];cases b with
   |true=>exact⟨_,rfl,.inl ⟨rfl,h2 rfl⟩⟩
   |false=>exact⟨_,rfl,.inr ⟨_,rfl,.inl rfl⟩⟩
  ·intro h;exact⟨_,by simp(disch:=omega)only[Zz],.inr ⟨rfl,h⟩⟩
  ·rintro b (rfl|⟨rfl,h⟩)
   ·exact⟨false,rfl,fun h=>by cases h⟩
   ·exact⟨true,rfl,fun _=>⟨by omega,h⟩⟩
 ·simp only[h0,decide_false,Bool.not_false,cond_true,I];exact⟨false,rfl,fun h=>by cases h⟩
theorem ShL.len{n:Nat}{l:List Yk}(h:ShL n l)(hn:n<=256):l.length<=300:=by rcases h.n with h|h<;>omega
theorem Zgn{n:Nat}{s:Qj}(h:GrS n s)(hn:n<=256):Jg s:=
 ⟨ZI h.c hn,ZI h.a hn,ZI h.l hn,ZI h.e hn,ZI h.t hn⟩
def Qc7(m:Mt)(l:List Yk):Nat:=m.2.2.2.2.length+l.length+100000
end Go.Proofs.Tryz
