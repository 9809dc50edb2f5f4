/- Plain law: accepted and reserves, by the program and by the reference. Plain law: CheckAct of the reference, by kinds. And further parts. -/
import Derived.Test.YtpkbmngnolhopaaGreatDoorXT3i
import Derived.Test.YtpkbmngnolhopaaGreatDoorXT3f
import Derived.Test.YtpkbmngnolhopaaGreatDoorXTeB2
import Derived.Test.YtpkbmngnolhopaaGreatDoorXTeB3
set_option maxRecDepth 100000
set_option linter.unusedVariables false
set_option linter.unusedSimpArgs false
open Option renaming bind_some->o
open List renaming cons_append->I,nil_append->J,range->R
open Int renaming toNat_natCast->U
namespace Go.Proofs.Tryz
open Go Go.Sx
theorem Ydg{s:Qi}{P C:Int}{step:List ByteArray×List ByteArray×List ByteArray×Int->Option ((List ByteArray×List ByteArray×List ByteArray×Int) ⊕ (List ByteArray×List ByteArray×List ByteArray))}{F:Nat}(L:List Qq)(hF:L.length<F)
  (hstep:∀(i:Nat) x (d:Dv),i<L.length->L[i]? =some x->d.1.length+d.2.1.length=i->d.2.1.length=d.2.2.length->step (d.1,d.2.1,d.2.2,(i:Int))=some (.inl ((Y3 s P C d x).1,(Y3 s P C d x).2.1,(Y3 s P C d x).2.2,(i:Int)+1)))
  (hend:∀d:Dv,d.1.length+d.2.1.length=L.length->d.2.1.length=d.2.2.length->step (d.1,d.2.1,d.2.2,(L.length:Int))=some (.inr d)):Qw step F (Qa ByteArray,Qa ByteArray,Qa ByteArray,0)=some (Vm s P C L):=by
 rw[Zlp (t:=(Qa ByteArray,Qa ByteArray,Qa ByteArray,0)) L (fun(d:Dv) i=>(d.1,d.2.1,d.2.2,(i:Int))) (fun x d=>.inl (Y3 s P C d x)) (fun d=>d) (fun i d=>d.1.length+d.2.1.length=i∧d.2.1.length=d.2.2.length) ?_ ?_ (s:=([],[],[])) rfl ⟨rfl,rfl⟩ hF]
 ·rw[Uw (Y3 s P C)];rfl
 ·intro i x d hi hx ⟨h1,h2⟩;refine⟨by rw[hstep i x d hi hx h1 h2];rfl,fun d' hd=>?_⟩;simp only[Sum.inl.injEq]at hd;subst hd;obtain⟨k1,k2⟩:=Qw4 s P C d x;exact⟨by omega,k2.2 h2⟩
 ·intro d ⟨h1,h2⟩;exact hend d h1 h2
theorem l72{F:Nat}(hF:400<=F){m:Mt}(hm:m.2.2.2.2.length<=300){s:Qi}(hS:Zr s){c:ByteArray}(hc:0<=cI m c){k:Bool}(hA:Ko (Ww s c k))(hk:∀x∈s.2.2.2.1,0<=aI s x.1):
  c72 F (m,s,c,k)=some ((Vm s (Zh m c).2.2.2.2.2.1 (Zh m c).2.2.2.2.2.2.1 (Z6 (Ww s c k))).2.1,(Vm s (Zh m c).2.2.2.2.2.1 (Zh m c).2.2.2.2.2.2.1 (Z6 (Ww s c k))).1):=by
 have e:∀y:ByteArray,y::Qa ByteArray=[y]:=fun _=>rfl;have hd:Zd=dC:=rfl;have hdA:Zw=dA:=rfl;obtain⟨j,y,h1,h2,-,-⟩:=Wl hc;have h1':Xc (fun y:Cst=>Qc y.1 c) m.2.2.2.2=(j:Int):=h1;have hC:m.2.2.2.2.getD j dC=Zh m c:=by unfold Zh cI;rw[h1'];rfl
 have hL:=Qd3 (Ww s c k);have hL2:=Zjs s c k;have hLe:=hS.e;have hLk:∀x∈Z6 (Ww s c k),0<=aI s x.1:=fun x hx=>hk x (Qtp x ((Qgc _).mem_iff.1 hx)).1;unfold c72 tw;simp only[tE,hd,hdA,Zj,l71 hF hS hA,l47 (F:=F) (m:=m) (by omega) (by omega),o,h1',U,hC];generalize Z6 (Ww s c k)=L at hL hLk;generalize hP:(Zh m c).2.2.2.2.2.1=P;generalize hQ:(Zh m c).2.2.2.2.2.2.1=Q;rw[Ydg (s:=s) (P:=P) (C:=Q) L (by omega)]
 ·obtain⟨r,a,cl⟩:=Vm s P Q L;simp(disch:=omega)only[Zf,o,decide_true,Bool.and_self,Q3,Nat.zero_add,Nat.le_refl,List.drop_zero,List.take_length];exact(congrArg (fun b=>gd b (some (a,r))) (Qt.eqv_rf (Qe.val (Ty.seq Ze)::Qe.val (Ty.seq Ze)::Qa Qe) (a,r))).trans (Q3 _)
 ·rintro i x ⟨r,a,cl⟩ hi hx hn hc
  simp only at hn hc;have hkx:=hLk x (List.mem_of_getElem? hx);obtain⟨ka,ha1,ha2⟩:=Qc8 hkx;have n1:(a++[x.1]).length<=301:=by simp;omega
  have n2:(r++[x.1]).length<=301:=by simp;omega
  have n3:(cl++[(s.2.1.getD ka dA).2.1]).length<=301:=by simp;omega
  have hcl:(s.2.1.getD ka dA).2.1=X2 s x.1:=by unfold X2;rw[ha1];rfl
  simp(disch:=omega)only[Z3,Zf,U,getD_some hx,Zy,Zj,l40 hF hS,o,ha1,hcl];rw[hcl]at n3;have hcn:=Qu2 cl (X2 s x.1);refine Jl cl (fun n q=>(n,(q:Int))) (fun z n=>.inl (if Qc z (X2 s x.1)=true then n+1 else n)) (fun n=>n) (fun q n=>0<=n∧n<=q) 0 (by omega) rfl ⟨by omega,by omega⟩ ?_ ?_ ?_
  ·intro q z n hq hz hnq;refine⟨?_,fun s' hs=>?_⟩
   ·simp(disch:=omega)only[Z3,Zf,Nat.zero_add,U,getD_some hz,Zy];cases Qc z (X2 s x.1)<;>rfl
   ·simp only[Sum.inl.injEq]at hs;subst hs;split<;>omega
  ·intro n _;simp(disch:=omega)only[Z0]
  ·rw[Uw (fun n (z:ByteArray)=>if Qc z (X2 s x.1)=true then n+1 else n),Qpi (fun z:ByteArray=>Qc z (X2 s x.1)),Int.zero_add];rw[show(List.filter (fun z=>Qc z (X2 s x.1)) cl).length=U7 cl (X2 s x.1)from rfl];simp(disch:=omega)only[e,Zf,decide_true,Bool.and_self,Q3,o];unfold Y3 inD;by_cases p1:(a.length:Int)<P
   ·by_cases p2:(U7 cl (X2 s x.1):Int)<Q
    ·simp[p1,p2,Q3]
    ·simp[p1,p2,Q3]
   ·simp[p1,Q3]
 ·rintro ⟨r,a,cl⟩ hn hc
  simp only at hn hc;simp(disch:=omega)only[Z0,decide_true,Bool.and_self,Q3,o]
def Ut(m:Mt)(c:ByteArray):Cst:=if cI m c<0 then Zgs else Zh m c
def Yn(m:Mt)(s:Qi)(c:ByteArray):Dv:=Vm s (Zh m c).2.2.2.2.2.1 (Zh m c).2.2.2.2.2.2.1 (X5 s c)
theorem Zbu{s:Qi}{c:ByteArray}:∀x∈V0 s c,x∈s.2.2.2.1∧Qc x.2.1 c=true:=fun x hx=>by rw[<-Zky]at hx;exact Qtp x hx
theorem Zru(s:Qi)(c:ByteArray):(V0 s c).length<=s.2.2.2.1.length:=List.length_filter_le _ _
theorem Zkz{m:Mt}{s:Qi}(hv:stE m s=0){c:ByteArray}:∀x∈X5 s c,0<=aI s x.1:=fun x hx=>
 Zkd hv (Zbu x ((Qgc _).mem_iff.1 hx)).1
theorem Qz6{m:Mt}{c:ByteArray}(h:0<=cI m c):Ut m c=Zh m c:=by unfold Ut;rw[if_neg (by omega)]
abbrev Ya:=Q9
abbrev Q0:=Int×Yl
def Yb(s:ByteArray):Int:=if Xk s=true then 0 else 8
def Yp(n:Int):Int:=if Yq n=true then 3 else 0
def Qea(l:List ByteArray):Int:=if 8<l.length then 5 else Qn (l.map Yb)
def Qd9(b:Q0):Int:=if b.2.2.2.2.2.2.1<b.2.2.2.2.2.1 then 11 else 0
def Qh9(b:Q0):Int:=Jv b.2.2.2.2.2.2.2.1 b.2.2.2.2.2.2.2.2.1 b.2.2.2.2.2.2.2.2.2.1
def J5(A C G K Fr T M N:Bool)(b:Q0):Bool:=
 (!A&& !Qc b.2.1 k0)||((!C&& !Qc b.2.2.1 k0)||((!G&& !Qc b.2.2.2.1 k0)||((!K&& !Qc b.2.2.2.2.1 k0)||((!Fr&& !decide (b.2.2.2.2.2.1=0))||((!T&& !decide (b.2.2.2.2.2.2.1=0))||
 ((!M&& !(b.2.2.2.2.2.2.2.1==k0&&(decide (b.2.2.2.2.2.2.2.2.1=0)&&(b.2.2.2.2.2.2.2.2.2.1==k0&&true))))||(!N&&decide ((0:Int)<(b.2.2.2.2.2.2.2.2.2.2.length:Int)))))))))
def Z5(A C G K Fr T M N L:Bool)(b:Q0):Int:=
 Qn [Yp b.1,bif A then Yb b.2.1 else 0,bif C then Yb b.2.2.1 else 0,bif G then Yb b.2.2.2.1 else 0,bif K then Yb b.2.2.2.2.1 else 0,bif Fr then Yp b.2.2.2.2.2.1 else 0,bif T then Yp b.2.2.2.2.2.2.1 else 0,
  bif L then Qd9 b else 0,bif M then Qh9 b else 0,bif N then Qea b.2.2.2.2.2.2.2.2.2.2 else 0,if J5 A C G K Fr T M N b=true then 1 else 0]
theorem Qcy{F:Nat}{s:ByteArray}(hs:s.size<F)(h3:s.size<=300)(c:Int):X1 F (s,c)=some ((R s.size).any fun i=>decide (((s.get! i).toNat:Int)=c)):=by
 unfold X1;refine Jl (R s.size) (fun(_:Unit) i=>(i:Int)) (fun x (_:Unit)=>if decide (((s.get! x).toNat:Int)=c)=true then .inr (.inl true)else .inl ()) (fun _=>(.inr ():Bool ⊕ Unit)) (fun _ _=>True) () (by simpa using hs) rfl trivial ?_ ?_ ?_
 ·intro i x _ hi hx _;refine⟨?_,fun _ _=>trivial⟩;obtain rfl:=Qhb hx;have hi':x<s.size:=by simpa using hi
  simp(disch:=omega)only[Z3,Zf,U,Zy,Qwh];by_cases h:((s.get! x).toNat:Int)=c
  ·simp[h]
  ·simp[h]
 ·intro _ _;rw[List.length_range];simp(disch:=omega)only[Z0]
 ·rw[Qby (fun x=>decide (((s.get! x).toNat:Int)=c))];cases(R s.size).any fun x=>decide (((s.get! x).toNat:Int)=c)<;>rfl
theorem Ye3{F:Nat}(hF:400<=F){l:List ByteArray}(hl:l.length<=10):Qp6 F l=some (Qea l):=by
 unfold Qp6 Qea;by_cases h:8<l.length
 ·have h':(8:Int)<l.length:=by omega
  simp only[h,h',decide_true,cond_true,if_true]
 ·have h':¬(8:Int)<l.length:=by omega
  simp only[h,h',decide_false,cond_false,if_false];refine Qe8 l Yb (by omega) ?_ ?_ ?_
  ·intro i x hi hx;simp(disch:=omega)only[Z3,Zf,U,getD_some hx,Zy,l67 (show 400<=F by omega),o,Nat.zero_add];unfold Yb;cases Xk x<;>rfl
  ·simp(disch:=omega)only[Z0]
  ·by_cases h2:Qn (l.map Yb)=0<;>simp[h2]
def Jd(b:Q0)(c:Int):Int:=
 if c=97 then Yb b.2.1 else if c=99 then Yb b.2.2.1 else if c=103 then Yb b.2.2.2.1 else if c=102 then Yp b.2.2.2.2.2.1 else if c=116 then Yp b.2.2.2.2.2.2.1 else if c=107 then Yb b.2.2.2.2.1
 else if c=109 then Qh9 b else Qea b.2.2.2.2.2.2.2.2.2.2
theorem Yse{F:Nat}(hF:400<=F)(b:Q0)(k:ByteArray)(hl:b.2.2.2.2.2.2.2.2.2.2.length<=10)(c:Int):Qoo F ((b.1,k,b.2),c)=some (Jd b c):=by
 unfold Qoo Jd;simp only[Zw0 hF,Zxi,Zf8,Ye3 hF hl,o];by_cases h1:c=97
 ·simp only[h1,decide_true,cond_true,if_true];rfl
 ·by_cases h2:c=99
  ·subst h2;rfl
  ·by_cases h3:c=103
   ·subst h3;rfl
   ·by_cases h4:c=102
    ·subst h4;rfl
    ·by_cases h5:c=116
     ·subst h5;rfl
     ·by_cases h6:c=107
      ·subst h6;rfl
      ·by_cases h7:c=109
       ·subst h7;rfl
       ·simp only[h1,h2,h3,h4,h5,h6,h7,decide_false,cond_false,if_false]
def Yw:ByteArray:=YJ
def Qil:ByteArray:=WB
def Ys:ByteArray:=YF
def Qiw:ByteArray:=YW
def Y9:ByteArray:=YG
def Qhr:ByteArray:=YX
def Ym:ByteArray:=YD
def Qii:ByteArray:=WA
def Xd:ByteArray:=YE
def Qgw:ByteArray:=YY
def Xe:ByteArray:=YB
def Qhs:ByteArray:=YV
def Xa:ByteArray:=YH
def Qh5:ByteArray:=YV
def Y7:ByteArray:=YI
def Qi1:ByteArray:=YZ
theorem Xt(x:Int)(l:List Int):Qn (x::l)=if x=0 then Qn l else x:=rfl
theorem Qal:∀(l m:List Int),Qn (l++m)=if Qn l=0 then Qn m else Qn l
 |[],m=>by simp[Qn]
 |x::l,m=>by rw[I,Xt,Xt,Qal l m];by_cases h:x=0<;>simp[h]
theorem Zdq(f i r:Bool):(bif !f then(bif i then some true else some r)else some r)=some ((!f&&i)||r):=by cases f<;>cases i<;>rfl
theorem Ydf(f r:Bool):(bif !f then some r else some false)=some (!f&&r):=by cases f<;>rfl
theorem Qdh{F:Nat}(hF:400<=F)(b:Q0)(hl:b.2.2.2.2.2.2.2.2.2.2.length<=10)(w L:ByteArray)(A C G K Fr T M N lic:Bool)(fl:List Int)
  (e0:Kk F w=some L) (e1:Qc L YC=false) (e2:Qc w YG=lic) (hs:L.size<=300)
  (qa:X1 F (L,97)=some A) (qc:X1 F (L,99)=some C) (qg:X1 F (L,103)=some G) (qk:X1 F (L,107)=some K) (qf:X1 F (L,102)=some Fr) (qt:X1 F (L,116)=some T) (qm:X1 F (L,109)=some M) (qn:X1 F (L,110)=some N)
  (hfl:(R L.size).map (fun i=>Jd b ((L.get! i).toNat:Int))=fl)
  (hg:Yp b.1=0->Z5 A C G K Fr T M N lic b=Qn (fl++[bif lic then Qd9 b else 0,if J5 A C G K Fr T M N b=true then 1 else 0])):c24 F (b.1,w,b.2)=some (Z5 A C G K Fr T M N lic b):=by
 have hk:(YC:ByteArray)=k0:=rfl;have hi:Qos F (b.1,w,b.2) L=some ((!C&& !Qc b.2.2.1 k0)||((!G&& !Qc b.2.2.2.1 k0)||((!K&& !Qc b.2.2.2.2.1 k0)||((!Fr&& !decide (b.2.2.2.2.2.1=0))||((!T&& !decide (b.2.2.2.2.2.2.1=0))||
   ((!M&& !(b.2.2.2.2.2.2.2.1==k0&&(decide (b.2.2.2.2.2.2.2.2.1=0)&&(b.2.2.2.2.2.2.2.2.2.1==k0&&true))))||(!N&&decide ((0:Int)<(b.2.2.2.2.2.2.2.2.2.2.length:Int))))))))):=by
  unfold Qos Qyn Qw9 Qzf Qtf Qs6 Qsu;simp only[qc,qg,qk,qf,qt,qm,qn,o,Ydf,Zdq,hk]
 unfold c24;simp only[e0,e1,Qu5,o,cond_false];by_cases hd:X3 b.1 99999=true
 ·have:Yp b.1=3:=by unfold Yp;rw[Qwt,if_pos hd]
  simp[hd,Z5,this,Qn]
 ·have hd0:Yp b.1=0:=by unfold Yp;rw[Qwt,if_neg hd]
  have hd':X3 b.1 99999=false:=by simpa using hd
  simp only[hd',cond_false];refine Qud L.size (fun i=>Jd b ((L.get! i).toNat:Int)) (by omega) (by omega) ?_ ?_ ?_
  ·intro i hi;have hb:=Yse hF b w hl ((L.get! i).toNat:Int);simp(disch:=omega)only[Z3,Zf,U,Zy,Qwh,Zj,hb,o,Zl3]
  ·simp(disch:=omega)only[Z0]
  ·rw[hfl,hg hd0,Qal];by_cases hz:Qn fl=0
   ·simp only[hz,if_true,Sum.elim_inr,e2,qa,hi,hk,Zdq,o];unfold J5 Qd9;generalize ((!A&& !Qc b.2.1 k0)||_)=iv;cases lic
    ·cases iv<;>rfl
    ·by_cases ho:b.2.2.2.2.2.2.1<b.2.2.2.2.2.1
     ·simp[ho,Xt]
     ·simp only[ho,decide_false,cond_true,cond_false,if_false,o];cases iv<;>rfl
   ·simp only[hz,if_false,Sum.elim_inl]
theorem Ydd(G:Nat):Kk (G+9) Yw=some Qil:=by kernel_rfl
theorem Zza{F:Nat}(hF:400<=F)(b:Q0)(hl:b.2.2.2.2.2.2.2.2.2.2.length<=10):c24 F (b.1,Yw,b.2)=some (Z5 false true false false false false false false false b):=by
 have hsz:Qil.size=1:=rfl;have e3:∀c:Int,X1 F (Qil,c)=some ((R Qil.size).any fun i=>decide (((Qil.get! i).toNat:Int)=c)):=fun c=>Qcy (by omega) (by omega) c;refine Qdh hF b hl Yw Qil false true false false false false false false false [Jd b 99] ?_ rfl rfl (by omega) ((e3 97).trans rfl) ((e3 99).trans rfl) ((e3 103).trans rfl) ((e3 107).trans rfl) ((e3 102).trans rfl) ((e3 116).trans rfl) ((e3 109).trans rfl) ((e3 110).trans rfl) rfl fun hd=>?_
 ·obtain⟨G,rfl⟩:∃G,F=G+9:=⟨F-9,by omega⟩;exact Ydd G
 ·unfold Z5;simp only[Xt,hd,cond_true,cond_false,if_true,I,J];rfl
theorem Ym5(G:Nat):Kk (G+9) Ys=some Qiw:=by kernel_rfl
theorem Zt4{F:Nat}(hF:400<=F)(b:Q0)(hl:b.2.2.2.2.2.2.2.2.2.2.length<=10):c24 F (b.1,Ys,b.2)=some (Z5 true true true false true false false false false b):=by
 have hsz:Qiw.size=4:=rfl;have e3:∀c:Int,X1 F (Qiw,c)=some ((R Qiw.size).any fun i=>decide (((Qiw.get! i).toNat:Int)=c)):=fun c=>Qcy (by omega) (by omega) c;refine Qdh hF b hl Ys Qiw true true true false true false false false false [Jd b 97,Jd b 99,Jd b 103,Jd b 102] ?_ rfl rfl (by omega) ((e3 97).trans rfl) ((e3 99).trans rfl) ((e3 103).trans rfl) ((e3 107).trans rfl) ((e3 102).trans rfl) ((e3 116).trans rfl) ((e3 109).trans rfl) ((e3 110).trans rfl) rfl fun hd=>?_
 ·obtain⟨G,rfl⟩:∃G,F=G+9:=⟨F-9,by omega⟩;exact Ym5 G
 ·unfold Z5;simp only[Xt,hd,cond_true,cond_false,if_true,I,J];rfl
theorem Yke(G:Nat):Kk (G+9) Y9=some Qhr:=by kernel_rfl
theorem Yol{F:Nat}(hF:400<=F)(b:Q0)(hl:b.2.2.2.2.2.2.2.2.2.2.length<=10):c24 F (b.1,Y9,b.2)=some (Z5 true false false false true true false false true b):=by
 have hsz:Qhr.size=3:=rfl;have e3:∀c:Int,X1 F (Qhr,c)=some ((R Qhr.size).any fun i=>decide (((Qhr.get! i).toNat:Int)=c)):=fun c=>Qcy (by omega) (by omega) c;refine Qdh hF b hl Y9 Qhr true false false false true true false false true [Jd b 97,Jd b 102,Jd b 116] ?_ rfl rfl (by omega) ((e3 97).trans rfl) ((e3 99).trans rfl) ((e3 103).trans rfl) ((e3 107).trans rfl) ((e3 102).trans rfl) ((e3 116).trans rfl) ((e3 109).trans rfl) ((e3 110).trans rfl) rfl fun hd=>?_
 ·obtain⟨G,rfl⟩:∃G,F=G+9:=⟨F-9,by omega⟩;exact Yke G
 ·unfold Z5;simp only[Xt,hd,cond_true,cond_false,if_true,I,J];rfl
theorem Zwa(G:Nat):Kk (G+9) Ym=some Qii:=by kernel_rfl
theorem Yc0{F:Nat}(hF:400<=F)(b:Q0)(hl:b.2.2.2.2.2.2.2.2.2.2.length<=10):c24 F (b.1,Ym,b.2)=some (Z5 true true false false false false false false false b):=by
 have hsz:Qii.size=2:=rfl;have e3:∀c:Int,X1 F (Qii,c)=some ((R Qii.size).any fun i=>decide (((Qii.get! i).toNat:Int)=c)):=fun c=>Qcy (by omega) (by omega) c;refine Qdh hF b hl Ym Qii true true false false false false false false false [Jd b 97,Jd b 99] ?_ rfl rfl (by omega) ((e3 97).trans rfl) ((e3 99).trans rfl) ((e3 103).trans rfl) ((e3 107).trans rfl) ((e3 102).trans rfl) ((e3 116).trans rfl) ((e3 109).trans rfl) ((e3 110).trans rfl) rfl fun hd=>?_
 ·obtain⟨G,rfl⟩:∃G,F=G+9:=⟨F-9,by omega⟩;exact Zwa G
 ·unfold Z5;simp only[Xt,hd,cond_true,cond_false,if_true,I,J];rfl
theorem Yfo(G:Nat):Kk (G+9) Xd=some Qgw:=by kernel_rfl
theorem Zyp{F:Nat}(hF:400<=F)(b:Q0)(hl:b.2.2.2.2.2.2.2.2.2.2.length<=10):c24 F (b.1,Xd,b.2)=some (Z5 true false false true false false true false false b):=by
 have hsz:Qgw.size=3:=rfl;have e3:∀c:Int,X1 F (Qgw,c)=some ((R Qgw.size).any fun i=>decide (((Qgw.get! i).toNat:Int)=c)):=fun c=>Qcy (by omega) (by omega) c;refine Qdh hF b hl Xd Qgw true false false true false false true false false [Jd b 97,Jd b 107,Jd b 109] ?_ rfl rfl (by omega) ((e3 97).trans rfl) ((e3 99).trans rfl) ((e3 103).trans rfl) ((e3 107).trans rfl) ((e3 102).trans rfl) ((e3 116).trans rfl) ((e3 109).trans rfl) ((e3 110).trans rfl) rfl fun hd=>?_
 ·obtain⟨G,rfl⟩:∃G,F=G+9:=⟨F-9,by omega⟩;exact Yfo G
 ·unfold Z5;simp only[Xt,hd,cond_true,cond_false,if_true,I,J];rfl
theorem Yb1(G:Nat):Kk (G+9) Xe=some Qhs:=by kernel_rfl
theorem Zzi{F:Nat}(hF:400<=F)(b:Q0)(hl:b.2.2.2.2.2.2.2.2.2.2.length<=10):c24 F (b.1,Xe,b.2)=some (Z5 true false false true false false false false false b):=by
 have hsz:Qhs.size=2:=rfl;have e3:∀c:Int,X1 F (Qhs,c)=some ((R Qhs.size).any fun i=>decide (((Qhs.get! i).toNat:Int)=c)):=fun c=>Qcy (by omega) (by omega) c;refine Qdh hF b hl Xe Qhs true false false true false false false false false [Jd b 97,Jd b 107] ?_ rfl rfl (by omega) ((e3 97).trans rfl) ((e3 99).trans rfl) ((e3 103).trans rfl) ((e3 107).trans rfl) ((e3 102).trans rfl) ((e3 116).trans rfl) ((e3 109).trans rfl) ((e3 110).trans rfl) rfl fun hd=>?_
 ·obtain⟨G,rfl⟩:∃G,F=G+9:=⟨F-9,by omega⟩;exact Yb1 G
 ·unfold Z5;simp only[Xt,hd,cond_true,cond_false,if_true,I,J];rfl
theorem Zwc(G:Nat):Kk (G+9) Xa=some Qh5:=by kernel_rfl
theorem Yhl{F:Nat}(hF:400<=F)(b:Q0)(hl:b.2.2.2.2.2.2.2.2.2.2.length<=10):c24 F (b.1,Xa,b.2)=some (Z5 true false false true false false false false false b):=by
 have hsz:Qh5.size=2:=rfl;have e3:∀c:Int,X1 F (Qh5,c)=some ((R Qh5.size).any fun i=>decide (((Qh5.get! i).toNat:Int)=c)):=fun c=>Qcy (by omega) (by omega) c;refine Qdh hF b hl Xa Qh5 true false false true false false false false false [Jd b 97,Jd b 107] ?_ rfl rfl (by omega) ((e3 97).trans rfl) ((e3 99).trans rfl) ((e3 103).trans rfl) ((e3 107).trans rfl) ((e3 102).trans rfl) ((e3 116).trans rfl) ((e3 109).trans rfl) ((e3 110).trans rfl) rfl fun hd=>?_
 ·obtain⟨G,rfl⟩:∃G,F=G+9:=⟨F-9,by omega⟩;exact Zwc G
 ·unfold Z5;simp only[Xt,hd,cond_true,cond_false,if_true,I,J];rfl
theorem Yhh(G:Nat):Kk (G+9) Y7=some Qi1:=by kernel_rfl
theorem Zph{F:Nat}(hF:400<=F)(b:Q0)(hl:b.2.2.2.2.2.2.2.2.2.2.length<=10):c24 F (b.1,Y7,b.2)=some (Z5 false true false true false false false true false b):=by
 have hsz:Qi1.size=3:=rfl;have e3:∀c:Int,X1 F (Qi1,c)=some ((R Qi1.size).any fun i=>decide (((Qi1.get! i).toNat:Int)=c)):=fun c=>Qcy (by omega) (by omega) c;refine Qdh hF b hl Y7 Qi1 false true false true false false false true false [Jd b 99,Jd b 107,Jd b 110] ?_ rfl rfl (by omega) ((e3 97).trans rfl) ((e3 99).trans rfl) ((e3 103).trans rfl) ((e3 107).trans rfl) ((e3 102).trans rfl) ((e3 116).trans rfl) ((e3 109).trans rfl) ((e3 110).trans rfl) rfl fun hd=>?_
 ·obtain⟨G,rfl⟩:∃G,F=G+9:=⟨F-9,by omega⟩;exact Yhh G
 ·unfold Z5;simp only[Xt,hd,cond_true,cond_false,if_true,I,J];rfl
end Go.Proofs.Tryz
section

end
