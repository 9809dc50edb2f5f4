/- A state that is valid stays valid behind a legal act. Plain: the list of a contest in a state that comes of few acts: few are in it, and nobody twice. And further parts. -/
import Derived.Test.YtpkbmngnolhopaaGreatDoorXTeR2
import Derived.Test.YtpkbmngnolhopaaGreatDoorXT3i
import Derived.Test.YtpkbmngnolhopaaGreatDoorXSxPr
set_option maxRecDepth 100000
set_option linter.unusedVariables false
set_option linter.unusedSimpArgs false
open List renaming mem_cons_of_mem->o,mem_cons_self->J,getElem?_eq_getElem->U,mem_map->ZA,range->ZB,any_eq_false->ZC,mem_singleton->ZE,length_append->ZF,pairwise_iff_getElem->ZG,mem_take_iff_getElem->ZH,pairwise_map->ZI,map_cons->ZJ,mem_cons->ZK,length_cons->ZL,length_map->ZM,map_append->ZN,length_singleton->ZO,mem_of_getElem?->ZP,nodup_cons->ZQ,mem_filter->ZR,length_set->ZS,foldl_cons->ZT,mem_append->ZU,mem_range->ZV
open Bool renaming eq_false_iff->ZD
namespace Go.Proofs.Tryz
open Go Go.Sx
theorem Qi8{α:Type}{l:List α}{ok:α->Prop}{same:α->α->Bool}{fE:Nat->Int}(h:∀i x,l[i]? =some x->(fE i=0↔ok x∧(l.take i).any (same x)=false)):
  Qi ((ZB l.length).map fE)=0↔(∀x∈l,ok x)∧l.Pairwise fun x y=>same y x=false:=by
 constructor
 ·intro h0;have hz:∀i x,l[i]? =some x->fE i=0:=fun i x hx=>Xm h0 _ (ZA.2 ⟨i,ZV.2 (List.getElem?_eq_some_iff.1 hx).1,rfl⟩);refine⟨fun x hx=>?_,?_⟩
  ·obtain⟨i,hi⟩:=List.getElem?_of_mem hx;exact((h i x hi).1 (hz i x hi)).1
  ·rw[ZG];intro i j hi hj hij;have:=((h j _ (U hj)).1 (hz j _ (U hj))).2;rw[ZC]at this;exact ZD.2 (this _ (ZH.2 ⟨i,by omega,rfl⟩))
 ·rintro ⟨h1,h2⟩
  refine Qgv fun e he=>?_;obtain⟨i,hi,rfl⟩:=ZA.1 he;have hi:=ZV.1 hi;refine(h i _ (U hi)).2 ⟨h1 _ (List.getElem_mem hi),?_⟩;rw[ZC];intro y hy;obtain⟨k,hk,rfl⟩:=ZH.1 hy;have:=ZG.1 h2 k i (by omega) hi (by omega);exact ZD.1 this
def Qfj(s:Qh)(y:Ath):Prop:=Y2 y.1=true∧hasB s.1 y.2.1=true∧Yc y.2.2.1=false∧Y2 y.2.2.2=true
def Qet(s:Qh)(y:Lic):Prop:=0<=aI s y.1∧Qco y.2.1 y.2.2=0
def Qfp(m:Mt)(s:Qh)(y:Qr):Prop:=0<=aI s y.1∧0<=cI m y.2.1∧¬ 0<(Zl m y.2.1).2.2.2.2.2.2.2.2.2.2∧Jo y.2.2.1 y.2.2.2.1 y.2.2.2.2.1=0∧X8 (Zl m y.2.1).2.1 y.2.2.1=true∧Yc y.2.2.2.2.2.1=false
def Qeh(m:Mt)(s:Qh)(y:Tm):Prop:=hasB s.1 y.1=true∧0<=cI m y.2.1∧(Zl m y.2.1).2.2.2.2.2.2.2.2.2.2≠0∧(y.2.2.length:Int)=(Zl m y.2.1).2.2.2.2.2.2.2.2.2.2∧(∀z∈y.2.2,0<=aI s z)∧y.2.2.Pairwise fun a b=>Qc a b=false
structure X1 (m:Mt) (s:Qh):Prop where
 mt:Z9 m=0
 many:¬J8 s
 c1:∀x∈s.1,Y2 x=true
 c2:s.1.Pairwise fun x y=>Qc x y=false
 a1:∀x∈s.2.1,Qfj s x
 a2:s.2.1.Pairwise fun x y=>Qc x.1 y.1=false
 l1:∀x∈s.2.2.1,Qet s x
 e1:∀x∈s.2.2.2.1,Qfp m s x
 e2:s.2.2.2.1.Pairwise fun x y=>eP y.1 y.2.1 x=false
 t1:∀x∈s.2.2.2.2,Qeh m s x
 t2:s.2.2.2.2.Pairwise fun x y=>tP y.1 y.2.1 x=false
theorem Zkq(l:List ByteArray):Qi ((ZB l.length).map (Kc l))=0↔(∀x∈l,Y2 x=true)∧l.Pairwise fun x y=>Qc x y=false:=by refine Qi8 (ok:=fun x=>Y2 x=true) (same:=fun x y=>Qc y x) fun i x hx=>?_;unfold Kc;rw[getD_some hx];have e:((l.take i).any fun y=>Qc y x)=hasB (l.take i) x:=rfl;rw[e];cases Y2 x<;>cases hasB (l.take i) x<;>simp
theorem Zkf(s:Qh):Qi ((ZB s.2.1.length).map (Vr s))=0↔(∀x∈s.2.1,Qfj s x)∧s.2.1.Pairwise fun x y=>Qc x.1 y.1=false:=by refine Qi8 (ok:=Qfj s) (same:=fun x y=>Qc y.1 x.1) fun i x hx=>?_;unfold Vr Qfj;rw[getD_some hx];generalize ((s.2.1.take i).any fun y=>Qc y.1 x.1)=b;cases Y2 x.1<;>cases b<;>cases hasB s.1 x.2.1<;>cases Yc x.2.2.1<;>cases Y2 x.2.2.2<;>simp
theorem Zhz(s:Qh):Qi ((ZB s.2.2.1.length).map (Vk s))=0↔∀x∈s.2.2.1,Qet s x:=by
 have h:=Qi8 (l:=s.2.2.1) (ok:=Qet s) (same:=fun _ _=>false) (fE:=Vk s) (fun i x hx=>by
  unfold Vk Qet;rw[getD_some hx];by_cases h:aI s x.1<0
  ·simp[h];omega
  ·simp[h];omega)
 rw[h];exact⟨fun h=>h.1,fun h=>⟨h,List.pairwise_of_forall fun _ _=>rfl⟩⟩
theorem Zbu(m:Mt)(s:Qh):Qi ((ZB s.2.2.2.1.length).map (J5 m s))=0↔(∀x∈s.2.2.2.1,Qfp m s x)∧s.2.2.2.1.Pairwise fun x y=>eP y.1 y.2.1 x=false:=by
 refine Qi8 (ok:=Qfp m s) (same:=fun x y=>eP x.1 x.2.1 y) fun i x hx=>?_;unfold J5 Qfp;rw[getD_some hx];have e:((s.2.2.2.1.take i).any fun y=>eP x.1 x.2.1 y)=(s.2.2.2.1.take i).any (eP x.1 x.2.1):=rfl;rw[e];generalize (s.2.2.2.1.take i).any (eP x.1 x.2.1)=b;by_cases h1:aI s x.1<0
 ·simp[h1];omega
 ·by_cases h2:cI m x.2.1<0
  ·simp[h2];omega
  ·have h1':0<=aI s x.1:=by omega
   have h2':0<=cI m x.2.1:=by omega
   by_cases h3:0<(Zl m x.2.1).2.2.2.2.2.2.2.2.2.2
   ·simp[h1,h2,h3]
   ·by_cases h4:Jo x.2.2.1 x.2.2.2.1 x.2.2.2.2.1=0
    ·cases b<;>cases X8 (Zl m x.2.1).2.1 x.2.2.1<;>cases Yc x.2.2.2.2.2.1<;>simp[h1,h2,h3,h4,h1',h2']
    ·cases b<;>simp[h1,h2,h3,h4]
theorem Zck(s:Qh)(l:List ByteArray):Qi ((ZB l.length).map (Vu s l))=0↔(∀z∈l,0<=aI s z)∧l.Pairwise fun a b=>Qc a b=false:=by
 refine Qi8 (ok:=fun z=>0<=aI s z) (same:=fun x y=>Qc y x) fun i x hx=>?_;unfold Vu;rw[getD_some hx];have e:((l.take i).any fun y=>Qc y x)=hasB (l.take i) x:=rfl;rw[e];by_cases h:aI s x<0
 ·simp[h];omega
 ·have h':0<=aI s x:=by omega
  cases hasB (l.take i) x<;>simp[h,h']
theorem Zi2(m:Mt)(s:Qh):Qi ((ZB s.2.2.2.2.length).map (V1 m s))=0↔(∀x∈s.2.2.2.2,Qeh m s x)∧s.2.2.2.2.Pairwise fun x y=>tP y.1 y.2.1 x=false:=by
 refine Qi8 (ok:=Qeh m s) (same:=fun x y=>tP x.1 x.2.1 y) fun i x hx=>?_;unfold V1 Qeh;rw[getD_some hx];have hr:=Zck s x.2.2;have e:((s.2.2.2.2.take i).any fun y=>tP x.1 x.2.1 y)=(s.2.2.2.2.take i).any (tP x.1 x.2.1):=rfl;rw[e];generalize (s.2.2.2.2.take i).any (tP x.1 x.2.1)=b;by_cases h2:cI m x.2.1<0
 ·simp[h2];omega
 ·have h2':0<=cI m x.2.1:=by omega
  cases hasB s.1 x.1 with
  |false=>simp
  |true=>
   by_cases h3:(Zl m x.2.1).2.2.2.2.2.2.2.2.2.2=0
   ·simp[h2,h3]
   ·by_cases h4:(x.2.2.length:Int)=(Zl m x.2.1).2.2.2.2.2.2.2.2.2.2
    ·cases b with
     |true=>simp[h2,h3]
     |false=>rw[if_neg (by simp[h2]),if_neg h3,if_neg (by simp),if_pos h4,hr];simp[h2',h3,h4]
    ·cases b<;>simp[h2,h3,h4]
theorem Qp5(m:Mt)(s:Qh):stE m s=0↔X1 m s:=by
 unfold stE;constructor
 ·intro h;by_cases h1:Z9 m=0
  ·rw[if_pos h1]at h;by_cases h2:J8 s
   ·rw[if_pos h2]at h;cases h
   ·rw[if_neg h2]at h;have g0:=(Zkq s.1).1 (Xm h _ (J ..));have g1:=(Zkf s).1 (Xm h _ (o _ (J ..)));have g2:=(Zhz s).1 (Xm h _ (o _ (o _ (J ..))));have g3:=(Zbu m s).1 (Xm h _ (o _ (o _ (o _ (J ..)))));have g4:=(Zi2 m s).1 (Xm h _ (o _ (o _ (o _ (o _ (J ..))))));exact⟨h1,h2,g0.1,g0.2,g1.1,g1.2,g2,g3.1,g3.2,g4.1,g4.2⟩
  ·rw[if_neg h1]at h;exact absurd h h1
 ·intro h;rw[if_pos h.mt,if_neg h.many,(Zkq s.1).2 ⟨h.c1,h.c2⟩,(Zkf s).2 ⟨h.a1,h.a2⟩,(Zhz s).2 h.l1,(Zbu m s).2 ⟨h.e1,h.e2⟩,(Zi2 m s).2 ⟨h.t1,h.t2⟩];rfl
theorem Qu1(s:Qh)(x:ByteArray):0<=aI s x↔(s.2.1.any fun y=>Qc y.1 x)=true:=by unfold aI;rw[<-Qhz,decide_eq_true_eq]
theorem Yn7{α:Type}(p:α->Bool)(l:List α)(x:α):(l++[x]).any p=(l.any p||p x):=by simp
theorem Qn2{α:Type}{R:α->α->Prop}{l:List α}{x:α}(h:l.Pairwise R)(hx:∀y∈l,R y x):(l++[x]).Pairwise R:=by rw[List.pairwise_append];exact⟨h,List.pairwise_singleton ..,fun a ha b hb=>by rw[ZE.1 hb];exact hx a ha⟩
theorem Qhj{α:Type}{Q:α->Prop}{l:List α}{x:α}(h:∀y∈l,Q y)(hx:Q x):∀y∈l++[x],Q y:=fun y hy=>(Qnd hy).elim (h y) fun e=>e▸hx
structure Qiu (s s':Qh):Prop where
 c:∀x,hasB s.1 x=true->hasB s'.1 x=true
 a:∀x,0<=aI s x->0<=aI s' x
theorem Qfj.more{s s':Qh}(hc:∀x,hasB s.1 x=true->hasB s'.1 x=true){y:Ath}(h:Qfj s y):Qfj s' y:=⟨h.1,hc _ h.2.1,h.2.2.1,h.2.2.2⟩
theorem Qet.more{s s':Qh}(h2:Qiu s s'){y:Lic}(h:Qet s y):Qet s' y:=⟨h2.a _ h.1,h.2⟩
theorem Qfp.more{m:Mt}{s s':Qh}(h2:Qiu s s'){y:Qr}(h:Qfp m s y):Qfp m s' y:=⟨h2.a _ h.1,h.2⟩
theorem Qeh.more{m:Mt}{s s':Qh}(h2:Qiu s s'){y:Tm}(h:Qeh m s y):Qeh m s' y:=⟨h2.c _ h.1,h.2.1,h.2.2.1,h.2.2.2.1,fun z hz=>h2.a _ (h.2.2.2.2.1 z hz),h.2.2.2.2.2⟩
theorem Qe0{s:Qh}{n:Nat}(h:GrS n s)(hn:n<=256):¬J8 s:=by have h1:=h.c;have h2:=h.a;have h3:=h.l;have h4:=h.e;have h5:=h.t;unfold J8;omega
theorem Zjp{α κ:Type}(key:α->κ){l:List α}{k:Nat}{x:α}(hk:∀y,l[k]? =some y->key x=key y):(l.set k x).map key=l.map key:=by
 rw[List.map_set];by_cases h:k<l.length
 ·have:=hk _ (U h);exact set_self (by rw[List.getElem?_map,U h,this];rfl)
 ·exact List.set_eq_of_length_le (by rw[ZM];omega)
theorem Qzc{α κ:Type}{R:κ->κ->Prop}(key:α->κ){l:List α}{k:Nat}{x:α}(hk:∀y,l[k]? =some y->key x=key y)(h:l.Pairwise fun a b=>R (key a) (key b)):(l.set k x).Pairwise fun a b=>R (key a) (key b):=by rw[<-ZI (f:=key) (R:=R),Zjp key hk,ZI];exact h
theorem Qwl{α:Type}{Q:α->Prop}{l:List α}{k:Nat}{x:α}(h:∀y∈l,Q y)(hx:Q x):∀y∈l.set k x,Q y:=fun y hy=>by
 rcases List.mem_or_eq_of_mem_set hy with hy|rfl
 ·exact h y hy
 ·exact hx
theorem Qzh{x:ByteArray}(h:Yd x=0):Y2 x=true:=by
 unfold Yd at h;by_cases q:Y2 x=true
 ·exact q
 ·rw[if_neg q]at h;cases h
theorem Qsn{n:Int}(h:Yp n=0):Yc n=false:=by
 unfold Yp at h;cases q:Yc n with
 |false=>rfl
 |true=>rw[if_pos q]at h;cases h
theorem Qyg{α:Type}{p:α->Bool}{l:List α}(h:Xe p l<0):∀y∈l,p y=false:=by have:=Qhz p l;rw[decide_eq_false (by omega)]at this;have:=ZC.1 this.symm;exact fun y hy=>ZD.2 (this y hy)
theorem Yav{n:Nat}{m:Mt}{s:Qh}{b:Q0}(h:X1 m s)(hg:GrS n (Uz s b))(hn:n<=256)(h0:Y0 (b.1,Yz,b.2)=0)(hl:Qaz s b=0):X1 m (Uz s b):=by
 have h0:Z7 false true false false false false false false false b=0:=h0;have hc:hasB s.1 b.2.2.1=false:=by
  unfold Qaz at hl;cases q:hasB s.1 b.2.2.1 with
  |false=>rfl
  |true=>rw[if_pos q]at hl;cases hl
 have hx:=ZC.1 hc;have mo:Qiu s (Uz s b):=⟨fun x hx=>by(show hasB (s.1++[b.2.2.1]) x=true;rw[Qzd,hx];rfl),fun x hx=>hx⟩;exact⟨h.mt,Qe0 hg hn,Qhj h.c1 (Qzh (Xm h0 _ (by simp))),Qn2 h.c2 fun y hy=>ZD.2 (hx y hy),fun x hx=>(h.a1 x hx).more mo.c,h.a2,fun x hx=>(h.l1 x hx).more mo,fun x hx=>(h.e1 x hx).more mo,h.e2,fun x hx=>(h.t1 x hx).more mo,h.t2⟩
theorem Znz{n:Nat}{m:Mt}{s:Qh}{b:Q0}(h:X1 m s)(hg:GrS n (U1 s b))(hn:n<=256)(h0:Y0 (b.1,Yv,b.2)=0)(hl:Qan s b=0):X1 m (U1 s b):=by
 have h0:Z7 true true true false true false false false false b=0:=h0;unfold Qan at hl;have hc:hasB s.1 b.2.2.1=true:=by
  cases q:hasB s.1 b.2.2.1 with
  |true=>rfl
  |false=>rw[if_neg (by rw[q];decide)]at hl;cases hl
 rw[if_pos hc]at hl;have ha:aI s b.2.1<0:=by
  by_cases q:0<=aI s b.2.1
  ·rw[if_pos q]at hl;cases hl
  ·omega
 have mo:Qiu s (U1 s b):=⟨fun x hx=>hx,fun x hx=>by rw[Qu1]at hx⊢;show((s.2.1++[_]).any _)=true;rw[Yn7,hx];rfl⟩;refine⟨h.mt,Qe0 hg hn,h.c1,h.c2,Qhj h.a1 ⟨Qzh (Xm h0 _ (by simp)),hc,Qsn (Xm h0 _ (by simp)),Qzh (Xm h0 _ (by simp))⟩,Qn2 h.a2 fun y hy=>Qyg ha y hy,fun x hx=>(h.l1 x hx).more mo,fun x hx=>(h.e1 x hx).more mo,h.e2,fun x hx=>(h.t1 x hx).more mo,h.t2⟩
theorem Ycw{n:Nat}{m:Mt}{s:Qh}{b:Q0}(h:X1 m s)(hg:GrS n (Qbh s b))(hn:n<=256)(h0:Y0 (b.1,Y9,b.2)=0)(hl:Qat s b=0):X1 m (Qbh s b):=by
 have h0:Z7 true false false false true true false false true b=0:=h0;have ha:0<=aI s b.2.1:=by
  unfold Qat at hl;by_cases q:aI s b.2.1<0
  ·rw[if_pos q]at hl;cases hl
  ·omega
 have d1:=Qsn (Xm h0 (Yp b.2.2.2.2.2.1) (by simp));have d2:=Qsn (Xm h0 (Yp b.2.2.2.2.2.2.1) (by simp));have d3:=Xm h0 (Qc2 b) (by simp);have hsp:Qco b.2.2.2.2.2.1 b.2.2.2.2.2.2.1=0:=by unfold Qco;rw[d1,d2];exact d3
 exact⟨h.mt,Qe0 hg hn,h.c1,h.c2,h.a1,h.a2,Qhj h.l1 ⟨ha,hsp⟩,h.e1,h.e2,h.t1,h.t2⟩
theorem Zos{n:Nat}{m:Mt}{s:Qh}{b:Q0}(h:X1 m s)(hg:GrS n (U5 s b))(hn:n<=256)(h0:Y0 (b.1,Yo,b.2)=0)(hl:K1 s b=0):X1 m (U5 s b):=by
 unfold K1 at hl;have ha:0<=aI s b.2.1:=by
  by_cases q:aI s b.2.1<0
  ·rw[if_pos q]at hl;cases hl
  ·omega
 rw[if_neg (by omega)]at hl;have hc:hasB s.1 b.2.2.1=true:=by
  cases q:hasB s.1 b.2.2.1 with
  |true=>rfl
  |false=>rw[if_neg (by rw[q];decide)]at hl;cases hl
 obtain⟨k,y,e,hk,hy,hp⟩:=Wf ha;have hat:Yy s b.2.1=y:=by unfold Yy;rw[show(aI s b.2.1).toNat=k by unfold aI;omega];exact getD_some hy
 have hkey:∀z,s.2.1[(aI s b.2.1).toNat]? =some z->((Yy s b.2.1).1,b.2.2.1,(Yy s b.2.1).2.2.1,(Yy s b.2.1).2.2.2).1=z.1:=fun z hz=>by rw[show(aI s b.2.1).toNat=k by unfold aI;omega,hy]at hz;cases hz;rw[hat]
 have hmap:=Zjp (fun z:Ath=>z.1) hkey;have hany:∀(l:List Ath) (x:ByteArray),(l.any fun y=>Qc y.1 x)=((l.map fun z=>z.1).any fun z=>Qc z x):=fun l x=>by rw[List.any_map];rfl
 have mo:Qiu s (U5 s b):=⟨fun x hx=>hx,fun x hx=>by rw[Qu1]at hx⊢;rw[hany]at hx⊢;show((List.map (fun z:Ath=>z.1) (s.2.1.set _ _)).any _)=true;rw[hmap];exact hx⟩;have hyo:=h.a1 y (ZP hy);refine⟨h.mt,Qe0 hg hn,h.c1,h.c2,Qwl h.a1 ?_,Qzc (R:=fun a b=>Qc a b=false) (fun z:Ath=>z.1) hkey h.a2,fun x hx=>(h.l1 x hx).more mo,fun x hx=>(h.e1 x hx).more mo,h.e2,fun x hx=>(h.t1 x hx).more mo,h.t2⟩;rw[hat];exact⟨hyo.1,hc,hyo.2.2.1,hyo.2.2.2⟩
theorem Zsg{n:Nat}{m:Mt}{s:Qh}{b:Q0}(h:X1 m s)(hg:GrS n (Qa2 s b))(hn:n<=256)(h0:Y0 (b.1,Xa,b.2)=0)(hl:Qa6 m s b=0):X1 m (Qa2 s b):=by
 have hmk:=Zdg h0;have h0:Z7 true false false true false false true false false b=0:=h0;have hd:=Qsn (Xm h0 (Yp b.1) (by simp[Z7]));unfold Qa6 at hl;by_cases q1:aI s b.2.1<0∨cI m b.2.2.2.2.1<0
 ·rw[if_pos q1]at hl;cases hl
 rw[if_neg q1]at hl;by_cases q2:0<(Zl m b.2.2.2.2.1).2.2.2.2.2.2.2.2.2.2
 ·rw[if_pos q2]at hl;cases hl
 rw[if_neg q2]at hl;by_cases q3:b.1<m.2.1∨m.2.2.1<b.1
 ·rw[if_pos q3]at hl;cases hl
 rw[if_neg q3]at hl;by_cases q4:0<=eI s b.2.1 b.2.2.2.2.1
 ·rw[if_pos q4]at hl;cases hl
 rw[if_neg q4]at hl;by_cases q5:elE m s (Zl m b.2.2.2.2.1) b.2.1=0
 ·rw[if_pos q5]at hl;by_cases q6:X8 (Zl m b.2.2.2.2.1).2.1 b.2.2.2.2.2.2.2.1=true
  ·exact⟨h.mt,Qe0 hg hn,h.c1,h.c2,h.a1,h.a2,h.l1,Qhj h.e1 ⟨by(show 0<=aI s b.2.1;omega),by(show 0<=cI m b.2.2.2.2.1;omega),q2,hmk,q6,hd⟩,Qn2 h.e2 fun y hy=>Qyg (show Xe (eP b.2.1 b.2.2.2.2.1) s.2.2.2.1<0 from by unfold eI at q4;omega) y hy,h.t1,h.t2⟩
  ·rw[if_neg q6]at hl;cases hl
 ·rw[if_neg q5]at hl;exact absurd hl q5
theorem Zp9{n:Nat}{m:Mt}{s:Qh}{b:Q0}(h:X1 m s)(hl:Uq m s b=0):X1 m (Qcm s b):=by
 have hx:0<=eI s b.2.1 b.2.2.2.2.1:=by unfold Uq at hl;split at hl<;>omega
 obtain⟨k,y,e,hk,hy,hp⟩:=Wf hx;refine(Qp5 m _).1 (Ybc ((Qp5 m s).2 h) (k:=(eI s b.2.1 b.2.2.2.2.1).toNat) ?_);rw[show(eI s b.2.1 b.2.2.2.2.1).toNat=k by unfold eI;omega];exact hk
theorem Yel{n:Nat}{m:Mt}{s:Qh}{b:Q0}(h:X1 m s)(hg:GrS n (Qas s b))(hn:n<=256)(hl:Uy m s b=0):X1 m (Qas s b):=by
 have hx:0<=eI s b.2.1 b.2.2.2.2.1:=by unfold Uy at hl;split at hl<;>omega
 obtain⟨k,y,e,hk,hy,hp⟩:=Wf hx;have ek:(eI s b.2.1 b.2.2.2.2.1).toNat=k:=by unfold eI;omega
 have hat:Vn s b.2.1 b.2.2.2.2.1=y:=by unfold Vn;rw[ek];exact getD_some hy
 have hkey:∀z,s.2.2.2.1[(eI s b.2.1 b.2.2.2.2.1).toNat]? =some z->((Qnh (Vn s b.2.1 b.2.2.2.2.1)).1,(Qnh (Vn s b.2.1 b.2.2.2.2.1)).2.1)=(z.1,z.2.1):=fun z hz=>by rw[ek,hy]at hz;cases hz;rw[hat];rfl
 have hyo:=h.e1 y (ZP hy);exact⟨h.mt,Qe0 hg hn,h.c1,h.c2,h.a1,h.a2,h.l1,Qwl h.e1 (by rw[hat];exact hyo),Qzc (R:=fun a b:ByteArray×ByteArray=>(Qc a.1 b.1&&Qc a.2 b.2)=false) (fun z:Qr=>(z.1,z.2.1)) hkey h.e2,h.t1,h.t2⟩
theorem Yi0{n:Nat}{m:Mt}{s:Qh}{b:Q0}(h:X1 m s)(hg:GrS n (Qaa s b))(hn:n<=256)(hl:Qbe m s b=0):X1 m (Qaa s b):=by
 unfold Qbe at hl;by_cases q1:hasB s.1 b.2.2.1=false∨cI m b.2.2.2.2.1<0
 ·rw[if_pos q1]at hl;cases hl
 rw[if_neg q1]at hl;by_cases q2:(Zl m b.2.2.2.2.1).2.2.2.2.2.2.2.2.2.2=0
 ·rw[if_pos q2]at hl;cases hl
 rw[if_neg q2]at hl;by_cases q3:m.1<b.1
 ·rw[if_pos q3]at hl;cases hl
 rw[if_neg q3]at hl;by_cases q4:(b.2.2.2.2.2.2.2.2.2.2.length:Int)=(Zl m b.2.2.2.2.1).2.2.2.2.2.2.2.2.2.2
 ·rw[if_pos q4]at hl;have hc:hasB s.1 b.2.2.1=true:=by
   cases q:hasB s.1 b.2.2.1 with
   |true=>rfl
   |false=>exact absurd (.inl q) q1
  have hr:Qi ((ZB b.2.2.2.2.2.2.2.2.2.2.length).map (Vu s b.2.2.2.2.2.2.2.2.2.2))=0:=Qgv fun e he=>by
   obtain⟨i,hi,rfl⟩:=ZA.1 he;have:=Xm hl _ (ZA.2 ⟨i,hi,rfl⟩);unfold teE at this;unfold Vu;by_cases p1:aI s (b.2.2.2.2.2.2.2.2.2.2.getD i ByteArray.empty)<0
   ·rw[if_pos p1]at this;cases this
   ·rw[if_neg p1]at this⊢;by_cases p2:Qc (Yy s (b.2.2.2.2.2.2.2.2.2.2.getD i ByteArray.empty)).2.1 b.2.2.1=true
    ·rw[if_pos p2]at this;by_cases p3:hasB (b.2.2.2.2.2.2.2.2.2.2.take i) (b.2.2.2.2.2.2.2.2.2.2.getD i ByteArray.empty)=true
     ·rw[if_pos p3]at this;cases this
     ·rw[if_neg p3]
    ·rw[if_neg p2]at this;cases this
  have hrun:=(Zck s b.2.2.2.2.2.2.2.2.2.2).1 hr;have hnew:Qeh m s (b.2.2.1,b.2.2.2.2.1,b.2.2.2.2.2.2.2.2.2.2):=⟨hc,by show 0<=cI m b.2.2.2.2.1;omega,q2,q4,hrun.1,hrun.2⟩;have hmany:=Qe0 hg hn;unfold Qaa at hmany⊢;by_cases q5:tI s b.2.2.1 b.2.2.2.2.1<0
  ·rw[if_pos q5]at hmany⊢;exact⟨h.mt,hmany,h.c1,h.c2,h.a1,h.a2,h.l1,h.e1,h.e2,Qhj h.t1 hnew,Qn2 h.t2 fun y hy=>Qyg q5 y hy⟩
  ·rw[if_neg q5]at hmany⊢;have q5':0<=tI s b.2.2.1 b.2.2.2.2.1:=by omega
   obtain⟨k,y,e,hk,hy,hp⟩:=Wf q5';have ek:(tI s b.2.2.1 b.2.2.2.2.1).toNat=k:=by unfold tI;omega
   have hkey:∀z,s.2.2.2.2[(tI s b.2.2.1 b.2.2.2.2.1).toNat]? =some z->(b.2.2.1,b.2.2.2.2.1)=(z.1,z.2.1):=fun z hz=>by rw[ek,hy]at hz;cases hz;have hp':(Qc y.1 b.2.2.1&&Qc y.2.1 b.2.2.2.2.1)=true:=hp;rw[Bool.and_eq_true]at hp';rw[Y1.1 hp'.1,Y1.1 hp'.2]
   exact⟨h.mt,hmany,h.c1,h.c2,h.a1,h.a2,h.l1,h.e1,h.e2,Qwl h.t1 hnew,Qzc (R:=fun a b:ByteArray×ByteArray=>(Qc a.1 b.1&&Qc a.2 b.2)=false) (fun z:Tm=>(z.1,z.2.1)) hkey h.t2⟩
 ·rw[if_neg q4]at hl;cases hl
theorem Zbf{n:Nat}{m:Mt}{s:Qh}{a:Zw}(h:X1 m s)(hg:GrS n s)(hn:n+1<=256)(ha:Zy (a.1,a.2.2))(h0:Y0 a=0)(hl:lgA m s a=0):X1 m (nxA s a):=by
 have hg':=Zbt hg ha;obtain⟨d,k,r⟩:=a;rcases Zjh h0 with e|e|e|e|e|e|e|e<;>obtain rfl:k=_:=e
 ·exact Yav (b:=(d,r)) h hg' hn h0 hl
 ·exact Znz (b:=(d,r)) h hg' hn h0 hl
 ·exact Ycw (b:=(d,r)) h hg' hn h0 hl
 ·exact Zos (b:=(d,r)) h hg' hn h0 hl
 ·exact Zsg (b:=(d,r)) h hg' hn h0 hl
 ·exact Zp9 (n:=n) (b:=(d,r)) h hl
 ·exact Yel (b:=(d,r)) h hg' hn hl
 ·exact Yi0 (b:=(d,r)) h hg' hn hl
theorem Qyu{m:Mt}(hv:Z9 m=0):X1 m zS:=⟨hv,by unfold J8;decide,fun _ h=>(by cases h),.nil,fun _ h=>(by cases h),.nil,fun _ h=>(by cases h),fun _ h=>(by cases h),.nil,fun _ h=>(by cases h),.nil⟩
theorem Zki{α:Type}[DecidableEq α]:∀(l m:List α),l.Nodup->(∀x∈l,x∈m)->l.length<=m.length
 |[],m,_,_=>Nat.zero_le _
 |x::l,m,h,hm=>by
  rw[ZQ]at h;have hx:=hm x (J ..);have ih:=Zki l (m.erase x) h.2 fun y hy=>by have hy':=hm y (o _ hy);have hne:y≠x:=fun e=>h.1 (e▸hy);exact(List.mem_erase_of_ne hne).2 hy'
  rw[List.length_erase_of_mem hx]at ih;have:0<m.length:=List.length_pos_of_mem hx;rw[ZL];omega
def Xt(s:Qh)(c:ByteArray):List ByteArray:=(X3 s c).map (·.1)
theorem Qjx{m:Mt}{s:Qh}(h:X1 m s)(c:ByteArray):(Xt s c).Nodup:=by
 have hp:((V5 s c).map (·.1)).Nodup:=by unfold List.Nodup;rw[ZI];have h2:=h.e2.filter (fun e:Qr=>Qc e.2.1 c);refine List.Pairwise.imp_of_mem ?_ h2;intro x y hx hy e he;have hx':=(ZR.1 hx).2;have hy':=(ZR.1 hy).2;unfold eP at e;rw[Y1.1 hx',Y1.1 hy',he,Wr,Wr]at e;cases e
 exact(((Qks (V5 s c)).map (·.1)).nodup_iff).2 hp
theorem Zns{m:Mt}{s:Qh}(h:X1 m s){c x:ByteArray}(hx:x∈Xt s c):x∈s.2.1.map (·.1):=by obtain⟨e,he,rfl⟩:=ZA.1 hx;have h1:=Zbv ((Qp5 m s).2 h) e he;rw[Qu1,List.any_eq_true]at h1;obtain⟨y,hy,e2⟩:=h1;exact ZA.2 ⟨y,hy,Y1.1 e2⟩
theorem Ykx{m:Mt}{s:Qh}(h:X1 m s)(c:ByteArray):(V5 s c).length<=s.2.1.length:=by have h1:=Zki (Xt s c) (s.2.1.map (·.1)) (Qjx h c) fun x hx=>Zns h hx;unfold Xt X3 at h1;rw[ZM,ZM,Qjg]at h1;exact h1
theorem Ygu(s:Qh)(a:Zw):(nxA s a).2.1.length+(nxA s a).2.2.2.1.length<=s.2.1.length+s.2.2.2.1.length+1:=by
 unfold nxA;split
 ·simp only[Uz];omega
 split
 ·simp only[U1,ZF,ZO];omega
 split
 ·simp only[Qbh];omega
 split
 ·simp only[U5,ZS];omega
 split
 ·simp only[Qa2,ZF,ZO];omega
 split
 ·simp only[Qcm,ZF,List.length_take,List.length_drop];omega
 split
 ·simp only[Qas,ZS];omega
 split
 ·unfold Qaa;split<;>simp only<;>omega
 ·omega
theorem Zek{m:Mt}:∀(l:List Zw) (x:Rp),(l.foldl (Zg m) x).1.2.1.length+(l.foldl (Zg m) x).1.2.2.2.1.length<=x.1.2.1.length+x.1.2.2.2.1.length+l.length
 |[],x=>Nat.le_refl _
 |a::l,x=>by
  have ih:=Zek (m:=m) l (Zg m x a);have h:=Ygu x.1 a;rw[ZT,ZL];have h2:(Zg m x a).1.2.1.length+(Zg m x a).1.2.2.2.1.length<=x.1.2.1.length+x.1.2.2.2.1.length+1:=by
   unfold Zg;by_cases e:rpE m x.1 x.2.2.1 a=0
   ·simp only[e,if_true];exact h
   ·simp only[e,if_false];omega
  omega
theorem Zgg{m:Mt}:∀(l:List Zw) (i:Nat) (x:Rp),X1 m x.1->RpI i x->i+l.length<=256->(∀a∈l,Zy (a.1,a.2.2))->(∀a∈l,Y0 a=0)->X1 m (l.foldl (Zg m) x).1
 |[],i,x,h,_,_,_,_=>h
 |a::l,i,x,h,hI,hn,hs,he=>by
  rw[ZL]at hn;rw[ZT];refine Zgg l (i+1) (Zg m x a) ?_ (Qzm hI (hs a (J ..))) (by omega) (fun b hb=>hs b (o _ hb)) (fun b hb=>he b (o _ hb));unfold Zg;by_cases e:rpE m x.1 x.2.2.1 a=0
  ·simp only[e,if_true];exact Zbf h hI.g (by omega) (hs a (J ..)) (he a (J ..)) (Quc e).2
  ·simp only[e,if_false];exact h
structure ByA (m:Mt) (s:Qh):Prop where
 ok:X1 m s
 g:GrS 24 s
 n:s.2.1.length+s.2.2.2.1.length<=24
theorem ByA.sm{m:Mt}{s:Qh}(h:ByA m s):Zh s:=h.g.sm (by decide)
theorem ByA.st{m:Mt}{s:Qh}(h:ByA m s):stE m s=0:=(Qp5 m s).2 h.ok
theorem ByA.sel{m:Mt}{s:Qh}(h:ByA m s)(c:ByteArray):(V5 s c).length<=20:=by have h1:=Ykx h.ok c;have h2:=Ymk s c;have:=h.n;omega
theorem ByA.list{m:Mt}{s:Qh}(h:ByA m s)(c:ByteArray):(X3 s c).length<=20:=by unfold X3;rw[Qjg];exact h.sel c
theorem ByA.l139{m:Mt}{s:Qh}(h:ByA m s)(c:ByteArray){F:Nat}(hF:400<=F):Qb1 F (s,c)=some (X3 s c):=
 Go.Proofs.Tryz.l139 hF h.sm (h.sel c) (Yjg h.st c Qz4)
theorem Zyc{m:Mt}(hv:Z9 m=0){l:List Zw}(hn:l.length<=24)(hs:∀a∈l,Zy (a.1,a.2.2))(he:∀a∈l,Y0 a=0):ByA m (l.foldl (Zg m) Z2).1:=by have h1:=Qdx (m:=m) Qbx hs;have h2:=Zek (m:=m) l Z2;rw[Nat.zero_add]at h1;refine⟨Zgg l 0 Z2 (Qyu hv) Qbx (by omega) hs he,h1.g.mono hn,Nat.le_trans h2 ?_⟩;have:Z2.1.2.1.length+Z2.1.2.2.2.1.length=0:=rfl;omega
def whr(d:Dv)(k:ByteArray):Int:=if hasB d.2.1 k=true then 1 else if hasB d.1 k=true then 2 else 0
theorem Qub{V:Type}{k:ByteArray}:∀{M:List (ByteArray×V)},Wc Qc k M=true↔k∈M.map (·.1)
 |[]=>by simp[Ygx]
 |e::M=>by rw[Yrr,ZJ,ZK,Bool.or_eq_true,Qub,Y1]
theorem Zb1{V:Type}{k:ByteArray}{x:V}:∀{M:List (ByteArray×V)},k∉M.map (·.1)->Jf Qc k x M=M++[(k,x)]
 |[],_=>by rw[Zan];rfl
 |e::M,h=>by rw[ZJ,ZK]at h;have h1:Qc k e.1=false:=Qfa fun e=>h (.inl e);rw[Zj3,h1,Zb1 fun e=>h (.inr e)];rfl
theorem Qwd{V:Type}{z:V}:∀{M:List (ByteArray×V)} {e:ByteArray×V},(M.map (·.1)).Nodup->e∈M->Y6 Qc e.1 M z=e.2
 |y::M,e,hn,h=>by
  rw[ZJ,ZQ]at hn;rw[Qf5];rcases ZK.1 h with rfl|h
  ·rw[Wr,if_pos rfl]
  ·have hne:e.1≠y.1:=fun e2=>hn.1 (e2▸ZA.2 ⟨e,h,rfl⟩);rw[Qfa hne,if_neg (by decide)];exact Qwd hn.2 h
theorem Zkn{V:Type}{z:V}{k:ByteArray}:∀{M:List (ByteArray×V)},k∉M.map (·.1)->Y6 Qc k M z=z
 |[],_=>Zar
 |y::M,h=>by rw[ZJ,ZK]at h;have h1:Qc k y.1=false:=Qfa fun e=>h (.inl e);rw[Qf5,h1,if_neg (by decide)];exact Zkn fun e=>h (.inr e)
structure PlR (ids:List ByteArray) (d:Dv) (M:List (ByteArray×Bool)):Prop where
 k:M.map (·.1)=ids
 v:∀e∈M,e.2=hasB d.2.1 e.1
 a:∀k,k∈d.2.1∨k∈d.1↔k∈ids
theorem PlR.step{ids:List ByteArray}{d:Dv}{M:List (ByteArray×Bool)}(h:PlR ids d M){s:Qh}{P C:Int}{x:Qr}(hx:x.1∉ids):PlR (ids++[x.1]) (Xv s P C d x) (Jf Qc x.1 (inD s P C d x) M):=by
 have hk:x.1∉M.map (·.1):=by rw[h.k];exact hx
 rw[Zb1 hk];have hxa:x.1∉d.2.1:=fun h2=>hx ((h.a _).1 (.inl h2));have hv:∀e∈M,hasB (d.2.1++[x.1]) e.1=hasB d.2.1 e.1:=fun e he=>by have hne:x.1≠e.1:=fun e2=>hk (e2▸ZA.2 ⟨e,he,rfl⟩);rw[Qzd,Qfa hne,Bool.or_false]
 refine⟨?_,?_,?_⟩
 ·rw[ZN,h.k];rfl
 ·intro e he;unfold Xv;rcases Qnd he with he|rfl
  ·cases inD s P C d x
   ·rw[if_neg (by decide)];exact h.v e he
   ·rw[if_pos rfl];show e.2=hasB (d.2.1++[x.1]) e.1;rw[hv e he];exact h.v e he
  ·cases inD s P C d x
   ·rw[if_neg (by decide)];exact(Zbr.2 hxa).symm
   ·rw[if_pos rfl];show true=hasB (d.2.1++[x.1]) x.1;rw[Qzd,Wr,Bool.or_true]
 ·intro k;have:=h.a k;unfold Xv;cases inD s P C d x
  ·rw[if_neg (by decide)];simp only[ZU,ZE,<-this,or_assoc]
  ·rw[if_pos rfl];simp only[ZU,ZE,<-this];constructor
   ·rintro ((h|h)|h)
    ·exact .inl (.inl h)
    ·exact .inr h
    ·exact .inl (.inr h)
   ·rintro ((h|h)|h)
    ·exact .inl (.inl h)
    ·exact .inr h
    ·exact .inl (.inr h)
theorem PlR.has{ids:List ByteArray}{d:Dv}{M:List (ByteArray×Bool)}(h:PlR ids d M)(k:ByteArray):Wc Qc k M= !decide (whr d k=0):=by
 have h1:=h.a k;have h2:Wc Qc k M=true↔k∈ids:=by rw[Qub,h.k]
 rw[<-h1,<-Qkq,<-Qkq]at h2;unfold whr;cases e1:hasB d.2.1 k<;>cases e2:hasB d.1 k<;>simp[e1,e2]at h2⊢ <;>exact h2
theorem PlR.get{ids:List ByteArray}{d:Dv}{M:List (ByteArray×Bool)}(h:PlR ids d M)(hn:ids.Nodup)(k:ByteArray):Y6 Qc k M false=decide (whr d k=1):=by
 have hw:decide (whr d k=1)=hasB d.2.1 k:=by unfold whr;cases hasB d.2.1 k<;>cases hasB d.1 k<;>rfl
 rw[hw];by_cases hk:k∈M.map (·.1)
 ·obtain⟨e,he,rfl⟩:=ZA.1 hk;rw[Qwd (by rw[h.k];exact hn) he,h.v e he]
 ·rw[Zkn hk];refine(Zbr.2 fun h2=>hk ?_).symm;rw[h.k];exact(h.a k).1 (.inl h2)
theorem Zff(d:Dv)(k:ByteArray):whr d k=0∨whr d k=1∨whr d k=2:=by
 unfold whr;split
 ·exact .inr (.inl rfl)
 ·split
  ·exact .inr (.inr rfl)
  ·exact .inl rfl
theorem Ymb(s:Qh)(P C:Int)(l:List Qr)(x:Qr):Qbo s P C (l++[x])=Xv s P C (Qbo s P C l) x:=by unfold Qbo;rw[List.foldl_append];rfl
theorem Zeg{α S O β:Type}{step:O->Option (O ⊕ β)}(l:List α)(enc:S->Nat->O)(f:S->α->S)(fin:S->β)(I:Nat->S->Prop)
  (hstep:∀i x s,i<l.length->l[i]? =some x->I i s->step (enc s i)=some (.inl (enc (f s x) (i+1)))∧I (i+1) (f s x))
  (hend:∀s,I l.length s->step (enc s l.length)=some (.inr (fin s))):∀(n i:Nat) (F:Nat) (s:S),n+i=l.length->I i s->n<F->∃s',I l.length s'∧Qx step F (enc s i)=some (fin s')
 |0,i,F+1,s,hn,hI,hF=>by
  obtain rfl:i=l.length:=by omega
  refine⟨s,hI,?_⟩;simp only[Qx,hend s hI]
 |n+1,i,F+1,s,hn,hI,hF=>by
  have hi:i<l.length:=by omega
  obtain⟨h1,h2⟩:=hstep i l[i] s hi (U hi) hI;obtain⟨s',h3,h4⟩:=Zeg l enc f fin I hstep hend n (i+1) F (f s l[i]) (by omega) h2 (by omega);refine⟨s',h3,?_⟩;simp only[Qx,h1];exact h4
abbrev Pq:=List (ByteArray×Bool)×List (ByteArray×Int)×Dv
def pqS(s:Qh)(P C:Int)(q:Pq)(x:Qr):Pq:=(Jf Qc x.1 (inD s P C q.2.2 x) q.1,if inD s P C q.2.2 x=true then Jf Qc (Wz s x.1) (Y6 Qc (Wz s x.1) q.2.1 0+1) q.2.1 else q.2.1,Xv s P C q.2.2 x)
structure PqI (s:Qh) (P C:Int) (L:List Qr) (i:Nat) (q:Pq):Prop where
 d:q.2.2=Qbo s P C (L.take i)
 p:PlR ((L.take i).map (·.1)) q.2.2 q.1
 m:Qiv q.2.1 q.2.2.2.2
 n:q.2.2.1.length+q.2.2.2.1.length=i
 c:q.2.2.2.1.length=q.2.2.2.2.length
theorem Ygl{s:Qh}{P C:Int}{L:List Qr}(hn:(L.map (·.1)).Nodup){i:Nat}{x:Qr}{q:Pq}(hx:L[i]? =some x)(h:PqI s P C L i q):PqI s P C L (i+1) (pqS s P C q x):=by
 have ht:L.take (i+1)=L.take i++[x]:=(Qyp hx).symm;have hnx:x.1∉(L.take i).map (·.1):=by
  have h1:((L.take (i+1)).map (·.1)).Nodup:=by rw[List.map_take];exact hn.sublist (List.take_sublist _ _)
  rw[ht,ZN,List.nodup_append]at h1;intro h2;exact h1.2.2 _ h2 x.1 (by simp) rfl
 obtain⟨M,Q,r,a,cl⟩:=q;obtain⟨h1,h2,h3,h4,h5⟩:=h;have k:=Ym9 s P C (r,a,cl) x;refine⟨?_,?_,?_,?_,?_⟩
 ·show Xv s P C (r,a,cl) x=_;rw[ht,Ymb,<-h1]
 ·show PlR ((L.take (i+1)).map (·.1)) (Xv s P C (r,a,cl) x) (Jf Qc x.1 (inD s P C (r,a,cl) x) M);rw[ht,ZN];exact h2.step hnx
 ·show Qiv (if inD s P C (r,a,cl) x=true then Jf Qc (Wz s x.1) (Y6 Qc (Wz s x.1) Q 0+1) Q else Q) (Xv s P C (r,a,cl) x).2.2;unfold Xv;cases inD s P C (r,a,cl) x
  ·simp only[Bool.false_eq_true,if_false];exact h3
  ·simp only[if_true];exact Qiv.put h3 _
 ·show(Xv s P C (r,a,cl) x).1.length+(Xv s P C (r,a,cl) x).2.1.length=i+1;have h4:r.length+a.length=i:=h4;have k1:=k.1;simp only at k1;omega
 ·exact k.2.2 h5
theorem Ztl(s:Qh)(P C:Int)(L:List Qr):PqI s P C L 0 ([],[],[],[],[]):=
 ⟨rfl,⟨rfl,fun _ h=>(by cases h),fun k=>by simp⟩,fun k=>by simp[Zar,Qb8],rfl,rfl⟩
end Go.Proofs.Tryz
