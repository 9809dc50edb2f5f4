/- Plain law: CheckAct of the program, by kinds. -/
import Derived.Test.YtpkbmngnolhopaaGreatDoorXT3i
import Derived.Test.YtpkbmngnolhopaaGreatDoorXTeK23b
set_option maxRecDepth 100000
set_option linter.unusedVariables false
set_option linter.unusedSimpArgs false
open Option renaming bind_some->j
open Bool renaming eq_false_iff->o,not_false->C,not_true->I,false_and->ZC,true_and->ZD,false_or->ZE,or_false->ZF
open BitVec renaming ofInt->J,toNat->ZB
open Decidable renaming decide->R
open Go.IntKind renaming wrap->U,i64->ZA
namespace Go.Proofs.Tryz
open Go Go.Sx
structure Zs (b:Qx):Prop where
 a:b.2.1.size<=60
 c:b.2.2.1.size<=60
 g:b.2.2.2.1.size<=60
 k:b.2.2.2.2.1.size<=60
 n:b.2.2.2.2.2.2.2.2.2.2.length<=10
 m:∀x∈b.2.2.2.2.2.2.2.2.2.2,x.size<=60
theorem Xf{F:Nat}(hF:400<=F){s:ByteArray}(hs:s.size<=60):c98 F s=some (Y3 s):=l98 hF (by omega)
theorem Qce{F:Nat}(hF:400<=F)(d:Int):Ye F (d::Qa Int)=some (Yw d):=by rw[l85 (by simp[Qa];omega) (by simp[Qa])];simp[Qa,Yw]
theorem Qb5{F:Nat}(hF:400<=F)(a b:Int):Q2 F (a::b::Qa Int)=some (Qk [a,b]):=Jb hF (by simp[Qa])
theorem Qc0{F:Nat}(hF:400<=F)(a b c d e f g:Int):Q2 F (a::b::c::d::e::f::g::Qa Int)=some (Qk [a,b,c,d,e,f,g]):=Jb hF (by simp[Qa])
theorem Qdi(F:Nat)(s:ByteArray):Qn F (!Y3 s,8)=some (Yf s):=by rw[l86];unfold Yf;cases Y3 s<;>rfl
theorem Qd4(F:Nat)(d:Int):Qn F (!decide (Yw d=0),3)=some (Yw d):=by rw[l86];unfold Yw;cases Yj d<;>rfl
theorem Qc2(F:Nat)(b:Qx):Qn F (decide (b.2.2.2.2.2.2.1<b.2.2.2.2.2.1),11)=some (Qc5 b):=by rw[l86];unfold Qc5;by_cases h:b.2.2.2.2.2.2.1<b.2.2.2.2.2.1<;>simp[h]
theorem mkR(b:Qx):Jq b.2.2.2.2.2.2.2.1 b.2.2.2.2.2.2.2.2.1 b.2.2.2.2.2.2.2.2.2.1=Qhe b:=rfl
theorem fz2(d:Int):Qk [0,d]=d:=by show(if(0:Int)=0 then(if d=0 then 0 else d)else 0)=d;by_cases h:d=0<;>simp[h]
theorem Qd1{F:Nat}(hF:400<=F){b:Qx}(h:Zs b):Qah F b.2.2.2.2.2.2.2.2.2.2=some (Qk (b.2.2.2.2.2.2.2.2.2.2.map Yf)):=by
 have h1:=h.n;unfold Qah;refine Qgk b.2.2.2.2.2.2.2.2.2.2 Yf (by omega) ?_ ?_ ?_
 ·intro i x hi hx;have hs:=h.m x (List.mem_of_getElem? hx);have e:Qqd F ((i:Int),x)=some (Yf x):=by unfold Qqd;simp only[l92 hF (show x.size<=300 by omega),j];rfl
  simp(disch:=omega)only[Zx,Zf,Int.toNat_natCast,getD_some hx,Zv,e,j,Nat.zero_add];by_cases h0:Yf x=0<;>simp[h0]
 ·simp(disch:=omega)only[Zz]
 ·by_cases h2:Qk (b.2.2.2.2.2.2.2.2.2.2.map Yf)=0<;>simp[h2]
theorem Zy7(l:List ByteArray):Qk [if decide ((8:Int)<(l.length:Int))=true then 5 else 0,Qk (l.map Yf)]=Qdr l:=by
 unfold Qdr;by_cases h:8<l.length
 ·have h':(8:Int)<l.length:=by omega
  simp[h,h',Qk]
 ·have h':¬(8:Int)<l.length:=by omega
  simp only[h,h',decide_false,if_false,Bool.false_eq_true];exact fz2 _
theorem Ypw:(! R (U ZA ((ZB (J (64:Nat) (2:Int)&&& J (64:Nat) (64:Int)):Nat):Int)=(0:Int)))=false:=by rfl
theorem Zut:(! R (U ZA ((ZB (J (64:Nat) (2:Int)&&& J (64:Nat) (128:Int)):Nat):Int)=(0:Int)))=false:=by rfl
theorem Yjh:(! R (U ZA ((ZB (J (64:Nat) (3:Int)&&& J (64:Nat) (64:Int)):Nat):Int)=(0:Int)))=false:=by rfl
theorem Zqf:(! R (U ZA ((ZB (J (64:Nat) (3:Int)&&& J (64:Nat) (128:Int)):Nat):Int)=(0:Int)))=false:=by rfl
theorem Zku:(! R (U ZA ((ZB (J (64:Nat) (9:Int)&&& J (64:Nat) (64:Int)):Nat):Int)=(0:Int)))=false:=by rfl
theorem Zaf:(! R (U ZA ((ZB (J (64:Nat) (9:Int)&&& J (64:Nat) (128:Int)):Nat):Int)=(0:Int)))=false:=by rfl
theorem Zo1:(! R (U ZA ((ZB (J (64:Nat) (23:Int)&&& J (64:Nat) (64:Int)):Nat):Int)=(0:Int)))=false:=by rfl
theorem Yfe:(! R (U ZA ((ZB (J (64:Nat) (23:Int)&&& J (64:Nat) (128:Int)):Nat):Int)=(0:Int)))=false:=by rfl
theorem Zyf:(! R (U ZA ((ZB (J (64:Nat) (49:Int)&&& J (64:Nat) (64:Int)):Nat):Int)=(0:Int)))=false:=by rfl
theorem Yao:(! R (U ZA ((ZB (J (64:Nat) (49:Int)&&& J (64:Nat) (128:Int)):Nat):Int)=(0:Int)))=false:=by rfl
theorem Yjw:(! R (U ZA ((ZB (J (64:Nat) (73:Int)&&& J (64:Nat) (64:Int)):Nat):Int)=(0:Int)))=true:=by rfl
theorem Zpa:(! R (U ZA ((ZB (J (64:Nat) (73:Int)&&& J (64:Nat) (128:Int)):Nat):Int)=(0:Int)))=false:=by rfl
theorem Yeo:(! R (U ZA ((ZB (J (64:Nat) (138:Int)&&& J (64:Nat) (64:Int)):Nat):Int)=(0:Int)))=false:=by rfl
theorem Ygt:(! R (U ZA ((ZB (J (64:Nat) (138:Int)&&& J (64:Nat) (128:Int)):Nat):Int)=(0:Int)))=true:=by rfl
theorem Yk6{F:Nat}(hF:400<=F){b:Qx}(h:Zs b):Qqo F b=some (Z4 false true false false false false false false false b):=by
 unfold Qqo;rw[show Z4 false true false false false false false false false b=Qk (Yw b.1::([0,Yf b.2.2.1,0,0,0,0,0]++[0,0,if Wb false true false false false false false false b=true then 1 else 0]))from rfl,Xl,Qar];simp only[Xf hF h.a,Xf hF h.c,Xf hF h.g,Xf hF h.k,Qdi,Qce hF,Qd4,Qc2,Qb5 hF,Qc0 hF,fz2,j,Ypw,Zut,Qd1 hF h,l99 hF,mkR];generalize hz:Qk [0,Yf b.2.2.1,0,0,0,0,0]=z;by_cases hd:Yw b.1=0
 ·simp only[hd,decide_true,I,cond_false,if_true];by_cases hq:z=0
  ·simp only[hq,decide_true,I,cond_true,cond_false,if_true,j];simp only[Xl,if_true];rw[show(YD:ByteArray)=k0 from rfl];unfold Wb;simp only[l86,I,C,ZC,ZD,ZE,ZF];generalize (!Qc b.2.1 k0)=i0;generalize (!Qc b.2.2.2.1 k0)=i1;generalize (!Qc b.2.2.2.2.1 k0)=i2;generalize (!decide (b.2.2.2.2.2.1=0))=i3;generalize (!decide (b.2.2.2.2.2.2.1=0))=i4;generalize (!(b.2.2.2.2.2.2.2.1==k0&&(decide (b.2.2.2.2.2.2.2.2.1=0)&&(b.2.2.2.2.2.2.2.2.2.1==k0&&true))))=i5;generalize (decide ((0:Int)<(b.2.2.2.2.2.2.2.2.2.2.length:Int)))=i6;cases i0<;>cases i1<;>cases i2<;>cases i3<;>cases i4<;>cases i5<;>cases i6<;>rfl
  ·simp only[hq,decide_false,C,cond_true,cond_false,if_false,j]
 ·simp only[hd,decide_false,C,cond_true,if_false]
theorem Yeb{F:Nat}(hF:400<=F){b:Qx}(h:Zs b):Qlx F b=some (Z4 false true false false false false false false false b):=by unfold Qlx tw;simp only[Yk6 hF h,j,Vv,Zh]
theorem Yc7{F:Nat}(hF:400<=F){b:Qx}(h:Zs b):Qvt F b=some (Z4 true true true false true false false false false b):=by
 unfold Qvt;rw[show Z4 true true true false true false false false false b=Qk (Yw b.1::([Yf b.2.1,Yf b.2.2.1,Yf b.2.2.2.1,0,Yw b.2.2.2.2.2.1,0,0]++[0,0,if Wb true true true false true false false false b=true then 1 else 0]))from rfl,Xl,Qar];simp only[Xf hF h.a,Xf hF h.c,Xf hF h.g,Xf hF h.k,Qdi,Qce hF,Qd4,Qc2,Qb5 hF,Qc0 hF,fz2,j,Zo1,Yfe,Qd1 hF h,l99 hF,mkR];generalize hz:Qk [Yf b.2.1,Yf b.2.2.1,Yf b.2.2.2.1,0,Yw b.2.2.2.2.2.1,0,0]=z;by_cases hd:Yw b.1=0
 ·simp only[hd,decide_true,I,cond_false,if_true];by_cases hq:z=0
  ·simp only[hq,decide_true,I,cond_true,cond_false,if_true,j];simp only[Xl,if_true];rw[show(YD:ByteArray)=k0 from rfl];unfold Wb;simp only[l86,I,C,ZC,ZD,ZE,ZF];generalize (!Qc b.2.2.2.2.1 k0)=i0;generalize (!decide (b.2.2.2.2.2.2.1=0))=i1;generalize (!(b.2.2.2.2.2.2.2.1==k0&&(decide (b.2.2.2.2.2.2.2.2.1=0)&&(b.2.2.2.2.2.2.2.2.2.1==k0&&true))))=i2;generalize (decide ((0:Int)<(b.2.2.2.2.2.2.2.2.2.2.length:Int)))=i3;cases i0<;>cases i1<;>cases i2<;>cases i3<;>rfl
  ·simp only[hq,decide_false,C,cond_true,cond_false,if_false,j]
 ·simp only[hd,decide_false,C,cond_true,if_false]
theorem Yio{F:Nat}(hF:400<=F){b:Qx}(h:Zs b):Qmj F b=some (Z4 true true true false true false false false false b):=by unfold Qmj tw;simp only[Yc7 hF h,j,Vv,Zh]
theorem Ztl{F:Nat}(hF:400<=F){b:Qx}(h:Zs b):Qy4 F b=some (Z4 true false false false true true false false true b):=by
 unfold Qy4;rw[show Z4 true false false false true true false false true b=Qk (Yw b.1::([Yf b.2.1,0,0,0,Yw b.2.2.2.2.2.1,Yw b.2.2.2.2.2.2.1,Qc5 b]++[0,0,if Wb true false false false true true false false b=true then 1 else 0]))from rfl,Xl,Qar];simp only[Xf hF h.a,Xf hF h.c,Xf hF h.g,Xf hF h.k,Qdi,Qce hF,Qd4,Qc2,Qb5 hF,Qc0 hF,fz2,j,Zyf,Yao,Qd1 hF h,l99 hF,mkR];generalize hz:Qk [Yf b.2.1,0,0,0,Yw b.2.2.2.2.2.1,Yw b.2.2.2.2.2.2.1,Qc5 b]=z;by_cases hd:Yw b.1=0
 ·simp only[hd,decide_true,I,cond_false,if_true];by_cases hq:z=0
  ·simp only[hq,decide_true,I,cond_true,cond_false,if_true,j];simp only[Xl,if_true];rw[show(YD:ByteArray)=k0 from rfl];unfold Wb;simp only[l86,I,C,ZC,ZD,ZE,ZF];generalize (!Qc b.2.2.1 k0)=i0;generalize (!Qc b.2.2.2.1 k0)=i1;generalize (!Qc b.2.2.2.2.1 k0)=i2;generalize (!(b.2.2.2.2.2.2.2.1==k0&&(decide (b.2.2.2.2.2.2.2.2.1=0)&&(b.2.2.2.2.2.2.2.2.2.1==k0&&true))))=i3;generalize (decide ((0:Int)<(b.2.2.2.2.2.2.2.2.2.2.length:Int)))=i4;cases i0<;>cases i1<;>cases i2<;>cases i3<;>cases i4<;>rfl
  ·simp only[hq,decide_false,C,cond_true,cond_false,if_false,j]
 ·simp only[hd,decide_false,C,cond_true,if_false]
theorem Zq2{F:Nat}(hF:400<=F){b:Qx}(h:Zs b):Qml F b=some (Z4 true false false false true true false false true b):=by unfold Qml tw;simp only[Ztl hF h,j,Vv,Zh]
theorem Ygn{F:Nat}(hF:400<=F){b:Qx}(h:Zs b):Qw4 F b=some (Z4 true true false false false false false false false b):=by
 unfold Qw4;rw[show Z4 true true false false false false false false false b=Qk (Yw b.1::([Yf b.2.1,Yf b.2.2.1,0,0,0,0,0]++[0,0,if Wb true true false false false false false false b=true then 1 else 0]))from rfl,Xl,Qar];simp only[Xf hF h.a,Xf hF h.c,Xf hF h.g,Xf hF h.k,Qdi,Qce hF,Qd4,Qc2,Qb5 hF,Qc0 hF,fz2,j,Yjh,Zqf,Qd1 hF h,l99 hF,mkR];generalize hz:Qk [Yf b.2.1,Yf b.2.2.1,0,0,0,0,0]=z;by_cases hd:Yw b.1=0
 ·simp only[hd,decide_true,I,cond_false,if_true];by_cases hq:z=0
  ·simp only[hq,decide_true,I,cond_true,cond_false,if_true,j];simp only[Xl,if_true];rw[show(YD:ByteArray)=k0 from rfl];unfold Wb;simp only[l86,I,C,ZC,ZD,ZE,ZF];generalize (!Qc b.2.2.2.1 k0)=i0;generalize (!Qc b.2.2.2.2.1 k0)=i1;generalize (!decide (b.2.2.2.2.2.1=0))=i2;generalize (!decide (b.2.2.2.2.2.2.1=0))=i3;generalize (!(b.2.2.2.2.2.2.2.1==k0&&(decide (b.2.2.2.2.2.2.2.2.1=0)&&(b.2.2.2.2.2.2.2.2.2.1==k0&&true))))=i4;generalize (decide ((0:Int)<(b.2.2.2.2.2.2.2.2.2.2.length:Int)))=i5;cases i0<;>cases i1<;>cases i2<;>cases i3<;>cases i4<;>cases i5<;>rfl
  ·simp only[hq,decide_false,C,cond_true,cond_false,if_false,j]
 ·simp only[hd,decide_false,C,cond_true,if_false]
theorem Zp5{F:Nat}(hF:400<=F){b:Qx}(h:Zs b):Qmq F b=some (Z4 true true false false false false false false false b):=by unfold Qmq tw;simp only[Ygn hF h,j,Vv,Zh]
theorem Zr4{F:Nat}(hF:400<=F){b:Qx}(h:Zs b):Qxf F b=some (Z4 true false false true false false true false false b):=by
 unfold Qxf;rw[show Z4 true false false true false false true false false b=Qk (Yw b.1::([Yf b.2.1,0,0,Yf b.2.2.2.2.1,0,0,0]++[Qhe b,0,if Wb true false false true false false true false b=true then 1 else 0]))from rfl,Xl,Qar];simp only[Xf hF h.a,Xf hF h.c,Xf hF h.g,Xf hF h.k,Qdi,Qce hF,Qd4,Qc2,Qb5 hF,Qc0 hF,fz2,j,Yjw,Zpa,Qd1 hF h,l99 hF,mkR];generalize hz:Qk [Yf b.2.1,0,0,Yf b.2.2.2.2.1,0,0,0]=z;by_cases hd:Yw b.1=0
 ·simp only[hd,decide_true,I,cond_false,if_true];by_cases hq:z=0
  ·simp only[hq,decide_true,I,cond_true,cond_false,if_true,j];by_cases hm:Qhe b=0
   ·simp only[hm,Xl,decide_true,I,cond_true,cond_false,if_true,j];rw[show(YD:ByteArray)=k0 from rfl];unfold Wb;simp only[l86,I,C,ZC,ZD,ZE,ZF];generalize (!Qc b.2.2.1 k0)=i0;generalize (!Qc b.2.2.2.1 k0)=i1;generalize (!decide (b.2.2.2.2.2.1=0))=i2;generalize (!decide (b.2.2.2.2.2.2.1=0))=i3;generalize (decide ((0:Int)<(b.2.2.2.2.2.2.2.2.2.2.length:Int)))=i4;cases i0<;>cases i1<;>cases i2<;>cases i3<;>cases i4<;>rfl
   ·simp only[hm,Xl,decide_false,C,cond_true,cond_false,if_false,j]
  ·simp only[hq,decide_false,C,cond_true,cond_false,if_false,j]
 ·simp only[hd,decide_false,C,cond_true,if_false]
theorem Yg2{F:Nat}(hF:400<=F){b:Qx}(h:Zs b):Qm8 F b=some (Z4 true false false true false false true false false b):=by unfold Qm8 tw;simp only[Zr4 hF h,j,Vv,Zh]
theorem Yew{F:Nat}(hF:400<=F){b:Qx}(h:Zs b):Qxx F b=some (Z4 true false false true false false false false false b):=by
 unfold Qxx;rw[show Z4 true false false true false false false false false b=Qk (Yw b.1::([Yf b.2.1,0,0,Yf b.2.2.2.2.1,0,0,0]++[0,0,if Wb true false false true false false false false b=true then 1 else 0]))from rfl,Xl,Qar];simp only[Xf hF h.a,Xf hF h.c,Xf hF h.g,Xf hF h.k,Qdi,Qce hF,Qd4,Qc2,Qb5 hF,Qc0 hF,fz2,j,Zku,Zaf,Qd1 hF h,l99 hF,mkR];generalize hz:Qk [Yf b.2.1,0,0,Yf b.2.2.2.2.1,0,0,0]=z;by_cases hd:Yw b.1=0
 ·simp only[hd,decide_true,I,cond_false,if_true];by_cases hq:z=0
  ·simp only[hq,decide_true,I,cond_true,cond_false,if_true,j];simp only[Xl,if_true];rw[show(YD:ByteArray)=k0 from rfl];unfold Wb;simp only[l86,I,C,ZC,ZD,ZE,ZF];generalize (!Qc b.2.2.1 k0)=i0;generalize (!Qc b.2.2.2.1 k0)=i1;generalize (!decide (b.2.2.2.2.2.1=0))=i2;generalize (!decide (b.2.2.2.2.2.2.1=0))=i3;generalize (!(b.2.2.2.2.2.2.2.1==k0&&(decide (b.2.2.2.2.2.2.2.2.1=0)&&(b.2.2.2.2.2.2.2.2.2.1==k0&&true))))=i4;generalize (decide ((0:Int)<(b.2.2.2.2.2.2.2.2.2.2.length:Int)))=i5;cases i0<;>cases i1<;>cases i2<;>cases i3<;>cases i4<;>cases i5<;>rfl
  ·simp only[hq,decide_false,C,cond_true,cond_false,if_false,j]
 ·simp only[hd,decide_false,C,cond_true,if_false]
theorem Zx6{F:Nat}(hF:400<=F){b:Qx}(h:Zs b):Qk4 F b=some (Z4 true false false true false false false false false b):=by unfold Qk4 tw;simp only[Yew hF h,j,Vv,Zh]
theorem Ylp{F:Nat}(hF:400<=F){b:Qx}(h:Zs b):Qyi F b=some (Z4 true false false true false false false false false b):=by
 unfold Qyi;rw[show Z4 true false false true false false false false false b=Qk (Yw b.1::([Yf b.2.1,0,0,Yf b.2.2.2.2.1,0,0,0]++[0,0,if Wb true false false true false false false false b=true then 1 else 0]))from rfl,Xl,Qar];simp only[Xf hF h.a,Xf hF h.c,Xf hF h.g,Xf hF h.k,Qdi,Qce hF,Qd4,Qc2,Qb5 hF,Qc0 hF,fz2,j,Zku,Zaf,Qd1 hF h,l99 hF,mkR];generalize hz:Qk [Yf b.2.1,0,0,Yf b.2.2.2.2.1,0,0,0]=z;by_cases hd:Yw b.1=0
 ·simp only[hd,decide_true,I,cond_false,if_true];by_cases hq:z=0
  ·simp only[hq,decide_true,I,cond_true,cond_false,if_true,j];simp only[Xl,if_true];rw[show(YD:ByteArray)=k0 from rfl];unfold Wb;simp only[l86,I,C,ZC,ZD,ZE,ZF];generalize (!Qc b.2.2.1 k0)=i0;generalize (!Qc b.2.2.2.1 k0)=i1;generalize (!decide (b.2.2.2.2.2.1=0))=i2;generalize (!decide (b.2.2.2.2.2.2.1=0))=i3;generalize (!(b.2.2.2.2.2.2.2.1==k0&&(decide (b.2.2.2.2.2.2.2.2.1=0)&&(b.2.2.2.2.2.2.2.2.2.1==k0&&true))))=i4;generalize (decide ((0:Int)<(b.2.2.2.2.2.2.2.2.2.2.length:Int)))=i5;cases i0<;>cases i1<;>cases i2<;>cases i3<;>cases i4<;>cases i5<;>rfl
  ·simp only[hq,decide_false,C,cond_true,cond_false,if_false,j]
 ·simp only[hd,decide_false,C,cond_true,if_false]
theorem Yee{F:Nat}(hF:400<=F){b:Qx}(h:Zs b):Qm9 F b=some (Z4 true false false true false false false false false b):=by unfold Qm9 tw;simp only[Ylp hF h,j,Vv,Zh]
theorem Zq9{F:Nat}(hF:400<=F){b:Qx}(h:Zs b):Qw0 F b=some (Z4 false true false true false false false true false b):=by
 unfold Qw0;rw[show Z4 false true false true false false false true false b=Qk (Yw b.1::([0,Yf b.2.2.1,0,Yf b.2.2.2.2.1,0,0,0]++[0,Qdr b.2.2.2.2.2.2.2.2.2.2,if Wb false true false true false false false true b=true then 1 else 0]))from rfl,Xl,Qar];simp only[Xf hF h.a,Xf hF h.c,Xf hF h.g,Xf hF h.k,Qdi,Qce hF,Qd4,Qc2,Qb5 hF,Qc0 hF,fz2,j,Yeo,Ygt,Qd1 hF h,l99 hF,mkR];generalize hz:Qk [0,Yf b.2.2.1,0,Yf b.2.2.2.2.1,0,0,0]=z;by_cases hd:Yw b.1=0
 ·simp only[hd,decide_true,I,cond_false,if_true];by_cases hq:z=0
  ·simp only[hq,decide_true,I,cond_true,cond_false,if_true,j];simp only[l86,Qb5 hF,Zy7,j];by_cases hm:Qdr b.2.2.2.2.2.2.2.2.2.2=0
   ·simp only[hm,Xl,decide_true,I,cond_true,cond_false,if_true,j];rw[show(YD:ByteArray)=k0 from rfl];unfold Wb;simp only[l86,I,C,ZC,ZD,ZE,ZF];generalize (!Qc b.2.1 k0)=i0;generalize (!Qc b.2.2.2.1 k0)=i1;generalize (!decide (b.2.2.2.2.2.1=0))=i2;generalize (!decide (b.2.2.2.2.2.2.1=0))=i3;generalize (!(b.2.2.2.2.2.2.2.1==k0&&(decide (b.2.2.2.2.2.2.2.2.1=0)&&(b.2.2.2.2.2.2.2.2.2.1==k0&&true))))=i4;cases i0<;>cases i1<;>cases i2<;>cases i3<;>cases i4<;>rfl
   ·simp only[hm,Xl,decide_false,C,cond_true,cond_false,if_false,j,if_true]
  ·simp only[hq,decide_false,C,cond_true,cond_false,if_false,j]
 ·simp only[hd,decide_false,C,cond_true,if_false]
theorem Yod{F:Nat}(hF:400<=F){b:Qx}(h:Zs b):Qj3 F b=some (Z4 false true false true false false false true false b):=by unfold Qj3 tw;simp only[Zq9 hF h,j,Vv,Zh]
def Z1(a:Yk):Int:=
 if Qc a.2.1 Yl=true then Z4 false true false false false false false false false (a.1,a.2.2)
 else if Qc a.2.1 Yh=true then Z4 true true true false true false false false false (a.1,a.2.2)
 else if Qc a.2.1 Yt=true then Z4 true false false false true true false false true (a.1,a.2.2)
 else if Qc a.2.1 Yc=true then Z4 true true false false false false false false false (a.1,a.2.2)
 else if Qc a.2.1 Yq=true then Z4 true false false true false false true false false (a.1,a.2.2)
 else if Qc a.2.1 Yv=true then Z4 true false false true false false false false false (a.1,a.2.2)
 else if Qc a.2.1 Yr=true then Z4 true false false true false false false false false (a.1,a.2.2)
 else if Qc a.2.1 Yp=true then Z4 false true false true false false false true false (a.1,a.2.2)
 else 13
theorem Ylx{F:Nat}(hF:400<=F)(a:Yk)(h:Qc a.2.1 Yl=false∧Qc a.2.1 Yh=false∧Qc a.2.1 Yt=false∧Qc a.2.1 Yc=false∧Qc a.2.1 Yq=false∧Qc a.2.1 Yv=false∧Qc a.2.1 Yr=false∧Qc a.2.1 Yp=false):Qkt F a=some 13:=by obtain⟨h0,h1,h2,h3,h4,h5,h6,h7⟩:=h;have h0:Qc a.2.1 YK=false:=h0;have h1:Qc a.2.1 YG=false:=h1;have h2:Qc a.2.1 YH=false:=h2;have h3:Qc a.2.1 YE=false:=h3;have h4:Qc a.2.1 YF=false:=h4;have h5:Qc a.2.1 YC=false:=h5;have h6:Qc a.2.1 YI=false:=h6;have h7:Qc a.2.1 YJ=false:=h7;unfold Qkt tw;simp only[h0,h1,h2,h3,h4,h5,h6,h7,Qce hF,C,Zh,j,Vv]
theorem l23{F:Nat}(hF:400<=F){a:Yk}(h:Zs (a.1,a.2.2)):c23 F a=some (Z1 a):=by
 unfold c23 Z1;rw[show Qe8=Yl from rfl];by_cases h0:Qc a.2.1 Yl=true
 ·rw[h0,cond_true,if_pos rfl,Yeb hF h]
 ·rw[o.2 h0,cond_false,if_neg (by decide)];rw[show Qg5=Yh from rfl];by_cases h1:Qc a.2.1 Yh=true
  ·rw[h1,cond_true,if_pos rfl,Yio hF h]
  ·rw[o.2 h1,cond_false,if_neg (by decide)];rw[show Qgm=Yt from rfl];by_cases h2:Qc a.2.1 Yt=true
   ·rw[h2,cond_true,if_pos rfl,Zq2 hF h]
   ·rw[o.2 h2,cond_false,if_neg (by decide)];rw[show Qfr=Yc from rfl];by_cases h3:Qc a.2.1 Yc=true
    ·rw[h3,cond_true,if_pos rfl,Zp5 hF h]
    ·rw[o.2 h3,cond_false,if_neg (by decide)];rw[show Qfz=Yq from rfl];by_cases h4:Qc a.2.1 Yq=true
     ·rw[h4,cond_true,if_pos rfl,Yg2 hF h]
     ·rw[o.2 h4,cond_false,if_neg (by decide)];rw[show Qge=Yv from rfl];by_cases h5:Qc a.2.1 Yv=true
      ·rw[h5,cond_true,if_pos rfl,Zx6 hF h]
      ·rw[o.2 h5,cond_false,if_neg (by decide)];rw[show Qgv=Yr from rfl];by_cases h6:Qc a.2.1 Yr=true
       ·rw[h6,cond_true,if_pos rfl,Yee hF h]
       ·rw[o.2 h6,cond_false,if_neg (by decide)];rw[show Qgx=Yp from rfl];by_cases h7:Qc a.2.1 Yp=true
        ·rw[h7,cond_true,if_pos rfl,Yod hF h]
        ·rw[o.2 h7,cond_false,if_neg (by decide)];exact Ylx hF a ⟨o.2 h0,o.2 h1,o.2 h2,o.2 h3,o.2 h4,o.2 h5,o.2 h6,o.2 h7⟩
theorem Zz3{F:Nat}(hF:400<=F){s:ByteArray}(h:Qc s Yl=false∧Qc s Yh=false∧Qc s Yt=false∧Qc s Yc=false∧Qc s Yq=false∧Qc s Yv=false∧Qc s Yr=false∧Qc s Yp=false):Ub F s=some YD:=by
 obtain⟨G,rfl⟩:∃G,F=G+9:=⟨F-9,by omega⟩;obtain⟨h0,h1,h2,h3,h4,h5,h6,h7⟩:=h;have h0:Qc Yl s=false:=by rw[Qb7];exact h0
 have h1:Qc Yh s=false:=by rw[Qb7];exact h1
 have h2:Qc Yt s=false:=by rw[Qb7];exact h2
 have h3:Qc Yc s=false:=by rw[Qb7];exact h3
 have h4:Qc Yq s=false:=by rw[Qb7];exact h4
 have h5:Qc Yv s=false:=by rw[Qb7];exact h5
 have h6:Qc Yr s=false:=by rw[Qb7];exact h6
 have h7:Qc Yp s=false:=by rw[Qb7];exact h7
 refine Jh [Yl,Yh,Yt,Yc,Yq,Yv,Yr,Yp] (fun(_:Unit) i=>(i:Int)) (fun x (_:Unit)=>.inl ()) (fun _=>(.inr ():ByteArray ⊕ Unit)) (fun _ _=>True) () (by show 8<G+9;omega) rfl trivial ?_ ?_ ?_
 ·intro i x _ hi hx _;refine⟨?_,fun _ _=>trivial⟩;have hi:i<8:=hi;have hk:Qc ([Yl,Yh,Yt,Yc,Yq,Yv,Yr,Yp].getD (0+i) ByteArray.empty) s=false:=by
   match i,hi with
   |0,_=>exact h0
   |1,_=>exact h1
   |2,_=>exact h2
   |3,_=>exact h3
   |4,_=>exact h4
   |5,_=>exact h5
   |6,_=>exact h6
   |7,_=>exact h7
  have hk:Qc (([Yl,Yh,Yt,Yc,Yq,Yv,Yr,Yp]:List ByteArray).getD (0+(i:Int).toNat) ByteArray.empty) s=false:=hk;simp(disch:=omega)only[Zx,Zf,Zv];exact(congrArg (fun b=>bif b then _ else _) hk)
 ·intro _ _;rfl
 ·rfl
theorem l24{F:Nat}(hF:400<=F){a:Yk}(h:Zs (a.1,a.2.2)):c24 F a=some (Z1 a):=by
 unfold Z1;by_cases h0:Qc a.2.1 Yl=true
 ·rw[if_pos h0];have e:=Yqg hF (a.1,a.2.2) h.n;rw[<-Xr.1 h0]at e;exact e
 ·rw[if_neg h0];by_cases h1:Qc a.2.1 Yh=true
  ·rw[if_pos h1];have e:=Yop hF (a.1,a.2.2) h.n;rw[<-Xr.1 h1]at e;exact e
  ·rw[if_neg h1];by_cases h2:Qc a.2.1 Yt=true
   ·rw[if_pos h2];have e:=Zne hF (a.1,a.2.2) h.n;rw[<-Xr.1 h2]at e;exact e
   ·rw[if_neg h2];by_cases h3:Qc a.2.1 Yc=true
    ·rw[if_pos h3];have e:=Yrf hF (a.1,a.2.2) h.n;rw[<-Xr.1 h3]at e;exact e
    ·rw[if_neg h3];by_cases h4:Qc a.2.1 Yq=true
     ·rw[if_pos h4];have e:=Zvs hF (a.1,a.2.2) h.n;rw[<-Xr.1 h4]at e;exact e
     ·rw[if_neg h4];by_cases h5:Qc a.2.1 Yv=true
      ·rw[if_pos h5];have e:=Zv3 hF (a.1,a.2.2) h.n;rw[<-Xr.1 h5]at e;exact e
      ·rw[if_neg h5];by_cases h6:Qc a.2.1 Yr=true
       ·rw[if_pos h6];have e:=Yf9 hF (a.1,a.2.2) h.n;rw[<-Xr.1 h6]at e;exact e
       ·rw[if_neg h6];by_cases h7:Qc a.2.1 Yp=true
        ·rw[if_pos h7];have e:=Zwz hF (a.1,a.2.2) h.n;rw[<-Xr.1 h7]at e;exact e
        ·rw[if_neg h7];unfold c24;rw[Zz3 hF ⟨o.2 h0,o.2 h1,o.2 h2,o.2 h3,o.2 h4,o.2 h5,o.2 h6,o.2 h7⟩];rfl
end Go.Proofs.Tryz
