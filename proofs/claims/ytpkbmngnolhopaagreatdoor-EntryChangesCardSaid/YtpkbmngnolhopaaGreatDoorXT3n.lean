/- Plain law: CheckAct of the program, by kinds. -/
import Derived.Test.YtpkbmngnolhopaaGreatDoorXT3q
import Derived.Test.YtpkbmngnolhopaaGreatDoorXTeK23b
set_option maxRecDepth 100000
set_option linter.unusedVariables false
set_option linter.unusedSimpArgs false
open Option renaming bind_some->j
open Bool renaming eq_false_iff->o,not_false->C,not_true->I,false_and->ZC,true_and->ZD,false_or->ZE,or_false->ZF
open BitVec renaming ofInt->J,toNat->ZB
open Decidable renaming decide->R
open Go.IntKind renaming wrap->U,i64->ZA
namespace Go.Proofs.Tryz
open Go Go.Sx
structure Zz (b:Q0):Prop where
 a:b.2.1.size<=60
 c:b.2.2.1.size<=60
 g:b.2.2.2.1.size<=60
 k:b.2.2.2.2.1.size<=60
 n:b.2.2.2.2.2.2.2.2.2.2.length<=10
 m:∀x∈b.2.2.2.2.2.2.2.2.2.2,x.size<=60
theorem Xj{F:Nat}(hF:400<=F){s:ByteArray}(hs:s.size<=60):c98 F s=some (Xk s):=l98 hF (by omega)
theorem Qbt{F:Nat}(hF:400<=F)(d:Int):Yf F (d::Qa Int)=some (Yp d):=by rw[l85 (by simp[Qa];omega) (by simp[Qa])];simp[Qa,Yp]
theorem Qb7{F:Nat}(hF:400<=F)(a b:Int):Q4 F (a::b::Qa Int)=some (Qn [a,b]):=W1 hF (by simp[Qa])
theorem Qd4{F:Nat}(hF:400<=F)(a b c d e f g:Int):Q4 F (a::b::c::d::e::f::g::Qa Int)=some (Qn [a,b,c,d,e,f,g]):=W1 hF (by simp[Qa])
theorem Qd8(F:Nat)(s:ByteArray):Qm F (!Xk s,8)=some (Yb s):=by rw[l86];unfold Yb;cases Xk s<;>rfl
theorem Qcz(F:Nat)(d:Int):Qm F (!decide (Yp d=0),3)=some (Yp d):=by rw[l86];unfold Yp;cases Yq d<;>rfl
theorem Qcw(F:Nat)(b:Q0):Qm F (decide (b.2.2.2.2.2.2.1<b.2.2.2.2.2.1),11)=some (Qd9 b):=by rw[l86];unfold Qd9;by_cases h:b.2.2.2.2.2.2.1<b.2.2.2.2.2.1<;>simp[h]
theorem mkR(b:Q0):Jv b.2.2.2.2.2.2.2.1 b.2.2.2.2.2.2.2.2.1 b.2.2.2.2.2.2.2.2.2.1=Qh9 b:=rfl
theorem fz2(d:Int):Qn [0,d]=d:=by show(if(0:Int)=0 then(if d=0 then 0 else d)else 0)=d;by_cases h:d=0<;>simp[h]
theorem Qc9{F:Nat}(hF:400<=F){b:Q0}(h:Zz b):U1 F b.2.2.2.2.2.2.2.2.2.2=some (Qn (b.2.2.2.2.2.2.2.2.2.2.map Yb)):=by
 have h1:=h.n;unfold U1;refine Qe8 b.2.2.2.2.2.2.2.2.2.2 Yb (by omega) ?_ ?_ ?_
 ·intro i x hi hx;have hs:=h.m x (List.mem_of_getElem? hx);have e:Qp0 F ((i:Int),x)=some (Yb x):=by unfold Qp0;simp only[l92 hF (show x.size<=300 by omega),j];rfl
  simp(disch:=omega)only[Z3,Zf,Int.toNat_natCast,getD_some hx,Zy,e,j,Nat.zero_add];by_cases h0:Yb x=0<;>simp[h0]
 ·simp(disch:=omega)only[Z0]
 ·by_cases h2:Qn (b.2.2.2.2.2.2.2.2.2.2.map Yb)=0<;>simp[h2]
theorem Zs1(l:List ByteArray):Qn [if decide ((8:Int)<(l.length:Int))=true then 5 else 0,Qn (l.map Yb)]=Qea l:=by
 unfold Qea;by_cases h:8<l.length
 ·have h':(8:Int)<l.length:=by omega
  simp[h,h',Qn]
 ·have h':¬(8:Int)<l.length:=by omega
  simp only[h,h',decide_false,if_false,Bool.false_eq_true];exact fz2 _
theorem Yr5:(! R (U ZA ((ZB (J (64:Nat) (2:Int)&&& J (64:Nat) (64:Int)):Nat):Int)=(0:Int)))=false:=by rfl
theorem Yc6:(! R (U ZA ((ZB (J (64:Nat) (2:Int)&&& J (64:Nat) (128:Int)):Nat):Int)=(0:Int)))=false:=by rfl
theorem Ylo:(! R (U ZA ((ZB (J (64:Nat) (3:Int)&&& J (64:Nat) (64:Int)):Nat):Int)=(0:Int)))=false:=by rfl
theorem Zpw:(! R (U ZA ((ZB (J (64:Nat) (3:Int)&&& J (64:Nat) (128:Int)):Nat):Int)=(0:Int)))=false:=by rfl
theorem Zdz:(! R (U ZA ((ZB (J (64:Nat) (9:Int)&&& J (64:Nat) (64:Int)):Nat):Int)=(0:Int)))=false:=by rfl
theorem Zd5:(! R (U ZA ((ZB (J (64:Nat) (9:Int)&&& J (64:Nat) (128:Int)):Nat):Int)=(0:Int)))=false:=by rfl
theorem Zo2:(! R (U ZA ((ZB (J (64:Nat) (23:Int)&&& J (64:Nat) (64:Int)):Nat):Int)=(0:Int)))=false:=by rfl
theorem Zxs:(! R (U ZA ((ZB (J (64:Nat) (23:Int)&&& J (64:Nat) (128:Int)):Nat):Int)=(0:Int)))=false:=by rfl
theorem Ygy:(! R (U ZA ((ZB (J (64:Nat) (49:Int)&&& J (64:Nat) (64:Int)):Nat):Int)=(0:Int)))=false:=by rfl
theorem Ylx:(! R (U ZA ((ZB (J (64:Nat) (49:Int)&&& J (64:Nat) (128:Int)):Nat):Int)=(0:Int)))=false:=by rfl
theorem Znh:(! R (U ZA ((ZB (J (64:Nat) (73:Int)&&& J (64:Nat) (64:Int)):Nat):Int)=(0:Int)))=true:=by rfl
theorem Yl9:(! R (U ZA ((ZB (J (64:Nat) (73:Int)&&& J (64:Nat) (128:Int)):Nat):Int)=(0:Int)))=false:=by rfl
theorem Zwo:(! R (U ZA ((ZB (J (64:Nat) (138:Int)&&& J (64:Nat) (64:Int)):Nat):Int)=(0:Int)))=false:=by rfl
theorem Yki:(! R (U ZA ((ZB (J (64:Nat) (138:Int)&&& J (64:Nat) (128:Int)):Nat):Int)=(0:Int)))=true:=by rfl
theorem Yg7{F:Nat}(hF:400<=F){b:Q0}(h:Zz b):Qo0 F b=some (Z5 false true false false false false false false false b):=by
 unfold Qo0;rw[show Z5 false true false false false false false false false b=Qn (Yp b.1::([0,Yb b.2.2.1,0,0,0,0,0]++[0,0,if J5 false true false false false false false false b=true then 1 else 0]))from rfl,Xt,Qal];simp only[Xj hF h.a,Xj hF h.c,Xj hF h.g,Xj hF h.k,Qd8,Qbt hF,Qcz,Qcw,Qb7 hF,Qd4 hF,fz2,j,Yr5,Yc6,Qc9 hF h,l99 hF,mkR];generalize hz:Qn [0,Yb b.2.2.1,0,0,0,0,0]=z;by_cases hd:Yp b.1=0
 ·simp only[hd,decide_true,I,cond_false,if_true];by_cases hq:z=0
  ·simp only[hq,decide_true,I,cond_true,cond_false,if_true,j];simp only[Xt,if_true];rw[show(YC:ByteArray)=k0 from rfl];unfold J5;simp only[l86,I,C,ZC,ZD,ZE,ZF];generalize (!Qc b.2.1 k0)=i0;generalize (!Qc b.2.2.2.1 k0)=i1;generalize (!Qc b.2.2.2.2.1 k0)=i2;generalize (!decide (b.2.2.2.2.2.1=0))=i3;generalize (!decide (b.2.2.2.2.2.2.1=0))=i4;generalize (!(b.2.2.2.2.2.2.2.1==k0&&(decide (b.2.2.2.2.2.2.2.2.1=0)&&(b.2.2.2.2.2.2.2.2.2.1==k0&&true))))=i5;generalize (decide ((0:Int)<(b.2.2.2.2.2.2.2.2.2.2.length:Int)))=i6;cases i0<;>cases i1<;>cases i2<;>cases i3<;>cases i4<;>cases i5<;>cases i6<;>rfl
  ·simp only[hq,decide_false,C,cond_true,cond_false,if_false,j]
 ·simp only[hd,decide_false,C,cond_true,if_false]
theorem Yqb{F:Nat}(hF:400<=F){b:Q0}(h:Zz b):Qks F b=some (Z5 false true false false false false false false false b):=by unfold Qks tw;simp only[Yg7 hF h,j,Uq,Q3]
theorem Zo6{F:Nat}(hF:400<=F){b:Q0}(h:Zz b):Qyx F b=some (Z5 true true true false true false false false false b):=by
 unfold Qyx;rw[show Z5 true true true false true false false false false b=Qn (Yp b.1::([Yb b.2.1,Yb b.2.2.1,Yb b.2.2.2.1,0,Yp b.2.2.2.2.2.1,0,0]++[0,0,if J5 true true true false true false false false b=true then 1 else 0]))from rfl,Xt,Qal];simp only[Xj hF h.a,Xj hF h.c,Xj hF h.g,Xj hF h.k,Qd8,Qbt hF,Qcz,Qcw,Qb7 hF,Qd4 hF,fz2,j,Zo2,Zxs,Qc9 hF h,l99 hF,mkR];generalize hz:Qn [Yb b.2.1,Yb b.2.2.1,Yb b.2.2.2.1,0,Yp b.2.2.2.2.2.1,0,0]=z;by_cases hd:Yp b.1=0
 ·simp only[hd,decide_true,I,cond_false,if_true];by_cases hq:z=0
  ·simp only[hq,decide_true,I,cond_true,cond_false,if_true,j];simp only[Xt,if_true];rw[show(YC:ByteArray)=k0 from rfl];unfold J5;simp only[l86,I,C,ZC,ZD,ZE,ZF];generalize (!Qc b.2.2.2.2.1 k0)=i0;generalize (!decide (b.2.2.2.2.2.2.1=0))=i1;generalize (!(b.2.2.2.2.2.2.2.1==k0&&(decide (b.2.2.2.2.2.2.2.2.1=0)&&(b.2.2.2.2.2.2.2.2.2.1==k0&&true))))=i2;generalize (decide ((0:Int)<(b.2.2.2.2.2.2.2.2.2.2.length:Int)))=i3;cases i0<;>cases i1<;>cases i2<;>cases i3<;>rfl
  ·simp only[hq,decide_false,C,cond_true,cond_false,if_false,j]
 ·simp only[hd,decide_false,C,cond_true,if_false]
theorem Zm5{F:Nat}(hF:400<=F){b:Q0}(h:Zz b):Qj3 F b=some (Z5 true true true false true false false false false b):=by unfold Qj3 tw;simp only[Zo6 hF h,j,Uq,Q3]
theorem Zz2{F:Nat}(hF:400<=F){b:Q0}(h:Zz b):Qvg F b=some (Z5 true false false false true true false false true b):=by
 unfold Qvg;rw[show Z5 true false false false true true false false true b=Qn (Yp b.1::([Yb b.2.1,0,0,0,Yp b.2.2.2.2.2.1,Yp b.2.2.2.2.2.2.1,Qd9 b]++[0,0,if J5 true false false false true true false false b=true then 1 else 0]))from rfl,Xt,Qal];simp only[Xj hF h.a,Xj hF h.c,Xj hF h.g,Xj hF h.k,Qd8,Qbt hF,Qcz,Qcw,Qb7 hF,Qd4 hF,fz2,j,Ygy,Ylx,Qc9 hF h,l99 hF,mkR];generalize hz:Qn [Yb b.2.1,0,0,0,Yp b.2.2.2.2.2.1,Yp b.2.2.2.2.2.2.1,Qd9 b]=z;by_cases hd:Yp b.1=0
 ·simp only[hd,decide_true,I,cond_false,if_true];by_cases hq:z=0
  ·simp only[hq,decide_true,I,cond_true,cond_false,if_true,j];simp only[Xt,if_true];rw[show(YC:ByteArray)=k0 from rfl];unfold J5;simp only[l86,I,C,ZC,ZD,ZE,ZF];generalize (!Qc b.2.2.1 k0)=i0;generalize (!Qc b.2.2.2.1 k0)=i1;generalize (!Qc b.2.2.2.2.1 k0)=i2;generalize (!(b.2.2.2.2.2.2.2.1==k0&&(decide (b.2.2.2.2.2.2.2.2.1=0)&&(b.2.2.2.2.2.2.2.2.2.1==k0&&true))))=i3;generalize (decide ((0:Int)<(b.2.2.2.2.2.2.2.2.2.2.length:Int)))=i4;cases i0<;>cases i1<;>cases i2<;>cases i3<;>cases i4<;>rfl
  ·simp only[hq,decide_false,C,cond_true,cond_false,if_false,j]
 ·simp only[hd,decide_false,C,cond_true,if_false]
theorem Zw7{F:Nat}(hF:400<=F){b:Q0}(h:Zz b):Qlz F b=some (Z5 true false false false true true false false true b):=by unfold Qlz tw;simp only[Zz2 hF h,j,Uq,Q3]
theorem Yof{F:Nat}(hF:400<=F){b:Q0}(h:Zz b):Qx5 F b=some (Z5 true true false false false false false false false b):=by
 unfold Qx5;rw[show Z5 true true false false false false false false false b=Qn (Yp b.1::([Yb b.2.1,Yb b.2.2.1,0,0,0,0,0]++[0,0,if J5 true true false false false false false false b=true then 1 else 0]))from rfl,Xt,Qal];simp only[Xj hF h.a,Xj hF h.c,Xj hF h.g,Xj hF h.k,Qd8,Qbt hF,Qcz,Qcw,Qb7 hF,Qd4 hF,fz2,j,Ylo,Zpw,Qc9 hF h,l99 hF,mkR];generalize hz:Qn [Yb b.2.1,Yb b.2.2.1,0,0,0,0,0]=z;by_cases hd:Yp b.1=0
 ·simp only[hd,decide_true,I,cond_false,if_true];by_cases hq:z=0
  ·simp only[hq,decide_true,I,cond_true,cond_false,if_true,j];simp only[Xt,if_true];rw[show(YC:ByteArray)=k0 from rfl];unfold J5;simp only[l86,I,C,ZC,ZD,ZE,ZF];generalize (!Qc b.2.2.2.1 k0)=i0;generalize (!Qc b.2.2.2.2.1 k0)=i1;generalize (!decide (b.2.2.2.2.2.1=0))=i2;generalize (!decide (b.2.2.2.2.2.2.1=0))=i3;generalize (!(b.2.2.2.2.2.2.2.1==k0&&(decide (b.2.2.2.2.2.2.2.2.1=0)&&(b.2.2.2.2.2.2.2.2.2.1==k0&&true))))=i4;generalize (decide ((0:Int)<(b.2.2.2.2.2.2.2.2.2.2.length:Int)))=i5;cases i0<;>cases i1<;>cases i2<;>cases i3<;>cases i4<;>cases i5<;>rfl
  ·simp only[hq,decide_false,C,cond_true,cond_false,if_false,j]
 ·simp only[hd,decide_false,C,cond_true,if_false]
theorem Ztb{F:Nat}(hF:400<=F){b:Q0}(h:Zz b):Qka F b=some (Z5 true true false false false false false false false b):=by unfold Qka tw;simp only[Yof hF h,j,Uq,Q3]
theorem Ycb{F:Nat}(hF:400<=F){b:Q0}(h:Zz b):Qwq F b=some (Z5 true false false true false false true false false b):=by
 unfold Qwq;rw[show Z5 true false false true false false true false false b=Qn (Yp b.1::([Yb b.2.1,0,0,Yb b.2.2.2.2.1,0,0,0]++[Qh9 b,0,if J5 true false false true false false true false b=true then 1 else 0]))from rfl,Xt,Qal];simp only[Xj hF h.a,Xj hF h.c,Xj hF h.g,Xj hF h.k,Qd8,Qbt hF,Qcz,Qcw,Qb7 hF,Qd4 hF,fz2,j,Znh,Yl9,Qc9 hF h,l99 hF,mkR];generalize hz:Qn [Yb b.2.1,0,0,Yb b.2.2.2.2.1,0,0,0]=z;by_cases hd:Yp b.1=0
 ·simp only[hd,decide_true,I,cond_false,if_true];by_cases hq:z=0
  ·simp only[hq,decide_true,I,cond_true,cond_false,if_true,j];by_cases hm:Qh9 b=0
   ·simp only[hm,Xt,decide_true,I,cond_true,cond_false,if_true,j];rw[show(YC:ByteArray)=k0 from rfl];unfold J5;simp only[l86,I,C,ZC,ZD,ZE,ZF];generalize (!Qc b.2.2.1 k0)=i0;generalize (!Qc b.2.2.2.1 k0)=i1;generalize (!decide (b.2.2.2.2.2.1=0))=i2;generalize (!decide (b.2.2.2.2.2.2.1=0))=i3;generalize (decide ((0:Int)<(b.2.2.2.2.2.2.2.2.2.2.length:Int)))=i4;cases i0<;>cases i1<;>cases i2<;>cases i3<;>cases i4<;>rfl
   ·simp only[hm,Xt,decide_false,C,cond_true,cond_false,if_false,j]
  ·simp only[hq,decide_false,C,cond_true,cond_false,if_false,j]
 ·simp only[hd,decide_false,C,cond_true,if_false]
theorem Zuz{F:Nat}(hF:400<=F){b:Q0}(h:Zz b):Qjh F b=some (Z5 true false false true false false true false false b):=by unfold Qjh tw;simp only[Ycb hF h,j,Uq,Q3]
theorem Yf9{F:Nat}(hF:400<=F){b:Q0}(h:Zz b):Qwb F b=some (Z5 true false false true false false false false false b):=by
 unfold Qwb;rw[show Z5 true false false true false false false false false b=Qn (Yp b.1::([Yb b.2.1,0,0,Yb b.2.2.2.2.1,0,0,0]++[0,0,if J5 true false false true false false false false b=true then 1 else 0]))from rfl,Xt,Qal];simp only[Xj hF h.a,Xj hF h.c,Xj hF h.g,Xj hF h.k,Qd8,Qbt hF,Qcz,Qcw,Qb7 hF,Qd4 hF,fz2,j,Zdz,Zd5,Qc9 hF h,l99 hF,mkR];generalize hz:Qn [Yb b.2.1,0,0,Yb b.2.2.2.2.1,0,0,0]=z;by_cases hd:Yp b.1=0
 ·simp only[hd,decide_true,I,cond_false,if_true];by_cases hq:z=0
  ·simp only[hq,decide_true,I,cond_true,cond_false,if_true,j];simp only[Xt,if_true];rw[show(YC:ByteArray)=k0 from rfl];unfold J5;simp only[l86,I,C,ZC,ZD,ZE,ZF];generalize (!Qc b.2.2.1 k0)=i0;generalize (!Qc b.2.2.2.1 k0)=i1;generalize (!decide (b.2.2.2.2.2.1=0))=i2;generalize (!decide (b.2.2.2.2.2.2.1=0))=i3;generalize (!(b.2.2.2.2.2.2.2.1==k0&&(decide (b.2.2.2.2.2.2.2.2.1=0)&&(b.2.2.2.2.2.2.2.2.2.1==k0&&true))))=i4;generalize (decide ((0:Int)<(b.2.2.2.2.2.2.2.2.2.2.length:Int)))=i5;cases i0<;>cases i1<;>cases i2<;>cases i3<;>cases i4<;>cases i5<;>rfl
  ·simp only[hq,decide_false,C,cond_true,cond_false,if_false,j]
 ·simp only[hd,decide_false,C,cond_true,if_false]
theorem Yq1{F:Nat}(hF:400<=F){b:Q0}(h:Zz b):Ql4 F b=some (Z5 true false false true false false false false false b):=by unfold Ql4 tw;simp only[Yf9 hF h,j,Uq,Q3]
theorem Znm{F:Nat}(hF:400<=F){b:Q0}(h:Zz b):Qve F b=some (Z5 true false false true false false false false false b):=by
 unfold Qve;rw[show Z5 true false false true false false false false false b=Qn (Yp b.1::([Yb b.2.1,0,0,Yb b.2.2.2.2.1,0,0,0]++[0,0,if J5 true false false true false false false false b=true then 1 else 0]))from rfl,Xt,Qal];simp only[Xj hF h.a,Xj hF h.c,Xj hF h.g,Xj hF h.k,Qd8,Qbt hF,Qcz,Qcw,Qb7 hF,Qd4 hF,fz2,j,Zdz,Zd5,Qc9 hF h,l99 hF,mkR];generalize hz:Qn [Yb b.2.1,0,0,Yb b.2.2.2.2.1,0,0,0]=z;by_cases hd:Yp b.1=0
 ·simp only[hd,decide_true,I,cond_false,if_true];by_cases hq:z=0
  ·simp only[hq,decide_true,I,cond_true,cond_false,if_true,j];simp only[Xt,if_true];rw[show(YC:ByteArray)=k0 from rfl];unfold J5;simp only[l86,I,C,ZC,ZD,ZE,ZF];generalize (!Qc b.2.2.1 k0)=i0;generalize (!Qc b.2.2.2.1 k0)=i1;generalize (!decide (b.2.2.2.2.2.1=0))=i2;generalize (!decide (b.2.2.2.2.2.2.1=0))=i3;generalize (!(b.2.2.2.2.2.2.2.1==k0&&(decide (b.2.2.2.2.2.2.2.2.1=0)&&(b.2.2.2.2.2.2.2.2.2.1==k0&&true))))=i4;generalize (decide ((0:Int)<(b.2.2.2.2.2.2.2.2.2.2.length:Int)))=i5;cases i0<;>cases i1<;>cases i2<;>cases i3<;>cases i4<;>cases i5<;>rfl
  ·simp only[hq,decide_false,C,cond_true,cond_false,if_false,j]
 ·simp only[hd,decide_false,C,cond_true,if_false]
theorem Znn{F:Nat}(hF:400<=F){b:Q0}(h:Zz b):Qjd F b=some (Z5 true false false true false false false false false b):=by unfold Qjd tw;simp only[Znm hF h,j,Uq,Q3]
theorem Zxj{F:Nat}(hF:400<=F){b:Q0}(h:Zz b):Qv7 F b=some (Z5 false true false true false false false true false b):=by
 unfold Qv7;rw[show Z5 false true false true false false false true false b=Qn (Yp b.1::([0,Yb b.2.2.1,0,Yb b.2.2.2.2.1,0,0,0]++[0,Qea b.2.2.2.2.2.2.2.2.2.2,if J5 false true false true false false false true b=true then 1 else 0]))from rfl,Xt,Qal];simp only[Xj hF h.a,Xj hF h.c,Xj hF h.g,Xj hF h.k,Qd8,Qbt hF,Qcz,Qcw,Qb7 hF,Qd4 hF,fz2,j,Zwo,Yki,Qc9 hF h,l99 hF,mkR];generalize hz:Qn [0,Yb b.2.2.1,0,Yb b.2.2.2.2.1,0,0,0]=z;by_cases hd:Yp b.1=0
 ·simp only[hd,decide_true,I,cond_false,if_true];by_cases hq:z=0
  ·simp only[hq,decide_true,I,cond_true,cond_false,if_true,j];simp only[l86,Qb7 hF,Zs1,j];by_cases hm:Qea b.2.2.2.2.2.2.2.2.2.2=0
   ·simp only[hm,Xt,decide_true,I,cond_true,cond_false,if_true,j];rw[show(YC:ByteArray)=k0 from rfl];unfold J5;simp only[l86,I,C,ZC,ZD,ZE,ZF];generalize (!Qc b.2.1 k0)=i0;generalize (!Qc b.2.2.2.1 k0)=i1;generalize (!decide (b.2.2.2.2.2.1=0))=i2;generalize (!decide (b.2.2.2.2.2.2.1=0))=i3;generalize (!(b.2.2.2.2.2.2.2.1==k0&&(decide (b.2.2.2.2.2.2.2.2.1=0)&&(b.2.2.2.2.2.2.2.2.2.1==k0&&true))))=i4;cases i0<;>cases i1<;>cases i2<;>cases i3<;>cases i4<;>rfl
   ·simp only[hm,Xt,decide_false,C,cond_true,cond_false,if_false,j,if_true]
  ·simp only[hq,decide_false,C,cond_true,cond_false,if_false,j]
 ·simp only[hd,decide_false,C,cond_true,if_false]
theorem Yrs{F:Nat}(hF:400<=F){b:Q0}(h:Zz b):Qj0 F b=some (Z5 false true false true false false false true false b):=by unfold Qj0 tw;simp only[Zxj hF h,j,Uq,Q3]
def Yz(a:Ya):Int:=
 if Qc a.2.1 Yw=true then Z5 false true false false false false false false false (a.1,a.2.2)
 else if Qc a.2.1 Ys=true then Z5 true true true false true false false false false (a.1,a.2.2)
 else if Qc a.2.1 Y9=true then Z5 true false false false true true false false true (a.1,a.2.2)
 else if Qc a.2.1 Ym=true then Z5 true true false false false false false false false (a.1,a.2.2)
 else if Qc a.2.1 Xd=true then Z5 true false false true false false true false false (a.1,a.2.2)
 else if Qc a.2.1 Xe=true then Z5 true false false true false false false false false (a.1,a.2.2)
 else if Qc a.2.1 Xa=true then Z5 true false false true false false false false false (a.1,a.2.2)
 else if Qc a.2.1 Y7=true then Z5 false true false true false false false true false (a.1,a.2.2)
 else 13
theorem Zof{F:Nat}(hF:400<=F)(a:Ya)(h:Qc a.2.1 Yw=false∧Qc a.2.1 Ys=false∧Qc a.2.1 Y9=false∧Qc a.2.1 Ym=false∧Qc a.2.1 Xd=false∧Qc a.2.1 Xe=false∧Qc a.2.1 Xa=false∧Qc a.2.1 Y7=false):Ql6 F a=some 13:=by obtain⟨h0,h1,h2,h3,h4,h5,h6,h7⟩:=h;have h0:Qc a.2.1 YJ=false:=h0;have h1:Qc a.2.1 YF=false:=h1;have h2:Qc a.2.1 YG=false:=h2;have h3:Qc a.2.1 YD=false:=h3;have h4:Qc a.2.1 YE=false:=h4;have h5:Qc a.2.1 YB=false:=h5;have h6:Qc a.2.1 YH=false:=h6;have h7:Qc a.2.1 YI=false:=h7;unfold Ql6 tw;simp only[h0,h1,h2,h3,h4,h5,h6,h7,Qbt hF,C,Q3,j,Uq]
theorem l23{F:Nat}(hF:400<=F){a:Ya}(h:Zz (a.1,a.2.2)):c23 F a=some (Yz a):=by
 unfold c23 Yz;rw[show Qku=Yw from rfl];by_cases h0:Qc a.2.1 Yw=true
 ·rw[h0,cond_true,if_pos rfl,Yqb hF h]
 ·rw[o.2 h0,cond_false,if_neg (by decide)];rw[show Qmj=Ys from rfl];by_cases h1:Qc a.2.1 Ys=true
  ·rw[h1,cond_true,if_pos rfl,Zm5 hF h]
  ·rw[o.2 h1,cond_false,if_neg (by decide)];rw[show Qjx=Y9 from rfl];by_cases h2:Qc a.2.1 Y9=true
   ·rw[h2,cond_true,if_pos rfl,Zw7 hF h]
   ·rw[o.2 h2,cond_false,if_neg (by decide)];rw[show Qjy=Ym from rfl];by_cases h3:Qc a.2.1 Ym=true
    ·rw[h3,cond_true,if_pos rfl,Ztb hF h]
    ·rw[o.2 h3,cond_false,if_neg (by decide)];rw[show Qjn=Xd from rfl];by_cases h4:Qc a.2.1 Xd=true
     ·rw[h4,cond_true,if_pos rfl,Zuz hF h]
     ·rw[o.2 h4,cond_false,if_neg (by decide)];rw[show Qms=Xe from rfl];by_cases h5:Qc a.2.1 Xe=true
      ·rw[h5,cond_true,if_pos rfl,Yq1 hF h]
      ·rw[o.2 h5,cond_false,if_neg (by decide)];rw[show Qjr=Xa from rfl];by_cases h6:Qc a.2.1 Xa=true
       ·rw[h6,cond_true,if_pos rfl,Znn hF h]
       ·rw[o.2 h6,cond_false,if_neg (by decide)];rw[show Qkj=Y7 from rfl];by_cases h7:Qc a.2.1 Y7=true
        ·rw[h7,cond_true,if_pos rfl,Yrs hF h]
        ·rw[o.2 h7,cond_false,if_neg (by decide)];exact Zof hF a ⟨o.2 h0,o.2 h1,o.2 h2,o.2 h3,o.2 h4,o.2 h5,o.2 h6,o.2 h7⟩
theorem Ynb{F:Nat}(hF:400<=F){s:ByteArray}(h:Qc s Yw=false∧Qc s Ys=false∧Qc s Y9=false∧Qc s Ym=false∧Qc s Xd=false∧Qc s Xe=false∧Qc s Xa=false∧Qc s Y7=false):Kk F s=some YC:=by
 obtain⟨G,rfl⟩:∃G,F=G+9:=⟨F-9,by omega⟩;obtain⟨h0,h1,h2,h3,h4,h5,h6,h7⟩:=h;have h0:Qc Yw s=false:=by rw[Qbu];exact h0
 have h1:Qc Ys s=false:=by rw[Qbu];exact h1
 have h2:Qc Y9 s=false:=by rw[Qbu];exact h2
 have h3:Qc Ym s=false:=by rw[Qbu];exact h3
 have h4:Qc Xd s=false:=by rw[Qbu];exact h4
 have h5:Qc Xe s=false:=by rw[Qbu];exact h5
 have h6:Qc Xa s=false:=by rw[Qbu];exact h6
 have h7:Qc Y7 s=false:=by rw[Qbu];exact h7
 refine Jl [Yw,Ys,Y9,Ym,Xd,Xe,Xa,Y7] (fun(_:Unit) i=>(i:Int)) (fun x (_:Unit)=>.inl ()) (fun _=>(.inr ():ByteArray ⊕ Unit)) (fun _ _=>True) () (by show 8<G+9;omega) rfl trivial ?_ ?_ ?_
 ·intro i x _ hi hx _;refine⟨?_,fun _ _=>trivial⟩;have hi:i<8:=hi;have hk:Qc ([Yw,Ys,Y9,Ym,Xd,Xe,Xa,Y7].getD (0+i) ByteArray.empty) s=false:=by
   match i,hi with
   |0,_=>exact h0
   |1,_=>exact h1
   |2,_=>exact h2
   |3,_=>exact h3
   |4,_=>exact h4
   |5,_=>exact h5
   |6,_=>exact h6
   |7,_=>exact h7
  have hk:Qc (([Yw,Ys,Y9,Ym,Xd,Xe,Xa,Y7]:List ByteArray).getD (0+(i:Int).toNat) ByteArray.empty) s=false:=hk;simp(disch:=omega)only[Z3,Zf,Zy];exact(congrArg (fun b=>bif b then _ else _) hk)
 ·intro _ _;rfl
 ·rfl
theorem l24{F:Nat}(hF:400<=F){a:Ya}(h:Zz (a.1,a.2.2)):c24 F a=some (Yz a):=by
 unfold Yz;by_cases h0:Qc a.2.1 Yw=true
 ·rw[if_pos h0];have e:=Zza hF (a.1,a.2.2) h.n;rw[<-Yy.1 h0]at e;exact e
 ·rw[if_neg h0];by_cases h1:Qc a.2.1 Ys=true
  ·rw[if_pos h1];have e:=Zt4 hF (a.1,a.2.2) h.n;rw[<-Yy.1 h1]at e;exact e
  ·rw[if_neg h1];by_cases h2:Qc a.2.1 Y9=true
   ·rw[if_pos h2];have e:=Yol hF (a.1,a.2.2) h.n;rw[<-Yy.1 h2]at e;exact e
   ·rw[if_neg h2];by_cases h3:Qc a.2.1 Ym=true
    ·rw[if_pos h3];have e:=Yc0 hF (a.1,a.2.2) h.n;rw[<-Yy.1 h3]at e;exact e
    ·rw[if_neg h3];by_cases h4:Qc a.2.1 Xd=true
     ·rw[if_pos h4];have e:=Zyp hF (a.1,a.2.2) h.n;rw[<-Yy.1 h4]at e;exact e
     ·rw[if_neg h4];by_cases h5:Qc a.2.1 Xe=true
      ·rw[if_pos h5];have e:=Zzi hF (a.1,a.2.2) h.n;rw[<-Yy.1 h5]at e;exact e
      ·rw[if_neg h5];by_cases h6:Qc a.2.1 Xa=true
       ·rw[if_pos h6];have e:=Yhl hF (a.1,a.2.2) h.n;rw[<-Yy.1 h6]at e;exact e
       ·rw[if_neg h6];by_cases h7:Qc a.2.1 Y7=true
        ·rw[if_pos h7];have e:=Zph hF (a.1,a.2.2) h.n;rw[<-Yy.1 h7]at e;exact e
        ·rw[if_neg h7];unfold c24;rw[Ynb hF ⟨o.2 h0,o.2 h1,o.2 h2,o.2 h3,o.2 h4,o.2 h5,o.2 h6,o.2 h7⟩];rfl
end Go.Proofs.Tryz
