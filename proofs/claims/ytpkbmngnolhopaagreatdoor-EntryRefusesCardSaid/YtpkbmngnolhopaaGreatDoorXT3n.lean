/- Plain law: CheckAct of the program, by kinds. -/
import Derived.Test.YtpkbmngnolhopaaGreatDoorXT3m
import Derived.Test.YtpkbmngnolhopaaGreatDoorXTeK23b
set_option maxRecDepth 100000
set_option linter.unusedVariables false
set_option linter.unusedSimpArgs false
open Option renaming bind_some->j
open Bool renaming eq_false_iff->o,not_false->C,not_true->I,false_and->ZC,true_and->ZD,false_or->ZE,or_false->ZF
open BitVec renaming ofInt->J,toNat->ZB
open Decidable renaming decide->R
open Go.IntKind renaming wrap->U,i64->ZA
namespace Go.Proofs.Tryz
open Go Go.Sx
structure Zy (b:Q0):Prop where
 a:b.2.1.size<=60
 c:b.2.2.1.size<=60
 g:b.2.2.2.1.size<=60
 k:b.2.2.2.2.1.size<=60
 n:b.2.2.2.2.2.2.2.2.2.2.length<=10
 m:∀x∈b.2.2.2.2.2.2.2.2.2.2,x.size<=60
theorem Xl{F:Nat}(hF:400<=F){s:ByteArray}(hs:s.size<=60):c98 F s=some (Y2 s):=l98 hF (by omega)
theorem Qbv{F:Nat}(hF:400<=F)(d:Int):Ye F (d::Qa Int)=some (Yp d):=by rw[l85 (by simp[Qa];omega) (by simp[Qa])];simp[Qa,Yp]
theorem Qbs{F:Nat}(hF:400<=F)(a b:Int):Qy F (a::b::Qa Int)=some (Qi [a,b]):=X9 hF (by simp[Qa])
theorem Qdn{F:Nat}(hF:400<=F)(a b c d e f g:Int):Qy F (a::b::c::d::e::f::g::Qa Int)=some (Qi [a,b,c,d,e,f,g]):=X9 hF (by simp[Qa])
theorem Qc4(F:Nat)(s:ByteArray):Qn F (!Y2 s,8)=some (Yd s):=by rw[Yt];unfold Yd;cases Y2 s<;>rfl
theorem Qeb(F:Nat)(d:Int):Qn F (!decide (Yp d=0),3)=some (Yp d):=by rw[Yt];unfold Yp;cases Yc d<;>rfl
theorem Qdl(F:Nat)(b:Q0):Qn F (decide (b.2.2.2.2.2.2.1<b.2.2.2.2.2.1),11)=some (Qc2 b):=by rw[Yt];unfold Qc2;by_cases h:b.2.2.2.2.2.2.1<b.2.2.2.2.2.1<;>simp[h]
theorem mkR(b:Q0):Jo b.2.2.2.2.2.2.2.1 b.2.2.2.2.2.2.2.2.1 b.2.2.2.2.2.2.2.2.2.1=Qgw b:=rfl
theorem fz2(d:Int):Qi [0,d]=d:=by show(if(0:Int)=0 then(if d=0 then 0 else d)else 0)=d;by_cases h:d=0<;>simp[h]
theorem Qdo{F:Nat}(hF:400<=F){b:Q0}(h:Zy b):Us F b.2.2.2.2.2.2.2.2.2.2=some (Qi (b.2.2.2.2.2.2.2.2.2.2.map Yd)):=by
 have h1:=h.n;unfold Us;refine Qex b.2.2.2.2.2.2.2.2.2.2 Yd (by omega) ?_ ?_ ?_
 ·intro i x hi hx;have hs:=h.m x (List.mem_of_getElem? hx);have e:Qqg F ((i:Int),x)=some (Yd x):=by unfold Qqg;simp only[l92 hF (show x.size<=300 by omega),j];rfl
  simp(disch:=omega)only[Z1,Ze,Int.toNat_natCast,getD_some hx,Zu,e,j,Nat.zero_add];by_cases h0:Yd x=0<;>simp[h0]
 ·simp(disch:=omega)only[Zz]
 ·by_cases h2:Qi (b.2.2.2.2.2.2.2.2.2.2.map Yd)=0<;>simp[h2]
theorem Ypf(l:List ByteArray):Qi [if decide ((8:Int)<(l.length:Int))=true then 5 else 0,Qi (l.map Yd)]=Qdg l:=by
 unfold Qdg;by_cases h:8<l.length
 ·have h':(8:Int)<l.length:=by omega
  simp[h,h',Qi]
 ·have h':¬(8:Int)<l.length:=by omega
  simp only[h,h',decide_false,if_false,Bool.false_eq_true];exact fz2 _
theorem Zz8:(! R (U ZA ((ZB (J (64:Nat) (2:Int)&&& J (64:Nat) (64:Int)):Nat):Int)=(0:Int)))=false:=by rfl
theorem Zpt:(! R (U ZA ((ZB (J (64:Nat) (2:Int)&&& J (64:Nat) (128:Int)):Nat):Int)=(0:Int)))=false:=by rfl
theorem Zzh:(! R (U ZA ((ZB (J (64:Nat) (3:Int)&&& J (64:Nat) (64:Int)):Nat):Int)=(0:Int)))=false:=by rfl
theorem Ztz:(! R (U ZA ((ZB (J (64:Nat) (3:Int)&&& J (64:Nat) (128:Int)):Nat):Int)=(0:Int)))=false:=by rfl
theorem Zi9:(! R (U ZA ((ZB (J (64:Nat) (9:Int)&&& J (64:Nat) (64:Int)):Nat):Int)=(0:Int)))=false:=by rfl
theorem Zfd:(! R (U ZA ((ZB (J (64:Nat) (9:Int)&&& J (64:Nat) (128:Int)):Nat):Int)=(0:Int)))=false:=by rfl
theorem Yan:(! R (U ZA ((ZB (J (64:Nat) (23:Int)&&& J (64:Nat) (64:Int)):Nat):Int)=(0:Int)))=false:=by rfl
theorem Yn0:(! R (U ZA ((ZB (J (64:Nat) (23:Int)&&& J (64:Nat) (128:Int)):Nat):Int)=(0:Int)))=false:=by rfl
theorem Ysk:(! R (U ZA ((ZB (J (64:Nat) (49:Int)&&& J (64:Nat) (64:Int)):Nat):Int)=(0:Int)))=false:=by rfl
theorem Yc9:(! R (U ZA ((ZB (J (64:Nat) (49:Int)&&& J (64:Nat) (128:Int)):Nat):Int)=(0:Int)))=false:=by rfl
theorem Zus:(! R (U ZA ((ZB (J (64:Nat) (73:Int)&&& J (64:Nat) (64:Int)):Nat):Int)=(0:Int)))=true:=by rfl
theorem Yj3:(! R (U ZA ((ZB (J (64:Nat) (73:Int)&&& J (64:Nat) (128:Int)):Nat):Int)=(0:Int)))=false:=by rfl
theorem Ykg:(! R (U ZA ((ZB (J (64:Nat) (138:Int)&&& J (64:Nat) (64:Int)):Nat):Int)=(0:Int)))=false:=by rfl
theorem Yna:(! R (U ZA ((ZB (J (64:Nat) (138:Int)&&& J (64:Nat) (128:Int)):Nat):Int)=(0:Int)))=true:=by rfl
theorem Ylx{F:Nat}(hF:400<=F){b:Q0}(h:Zy b):Qq8 F b=some (Z7 false true false false false false false false false b):=by
 unfold Qq8;rw[show Z7 false true false false false false false false false b=Qi (Yp b.1::([0,Yd b.2.2.1,0,0,0,0,0]++[0,0,if J6 false true false false false false false false b=true then 1 else 0]))from rfl,Xr,Qay];simp only[Xl hF h.a,Xl hF h.c,Xl hF h.g,Xl hF h.k,Qc4,Qbv hF,Qeb,Qdl,Qbs hF,Qdn hF,fz2,j,Zz8,Zpt,Qdo hF h,l99 hF,mkR];generalize hz:Qi [0,Yd b.2.2.1,0,0,0,0,0]=z;by_cases hd:Yp b.1=0
 ·simp only[hd,decide_true,I,cond_false,if_true];by_cases hq:z=0
  ·simp only[hq,decide_true,I,cond_true,cond_false,if_true,j];simp only[Xr,if_true];rw[show(YC:ByteArray)=k0 from rfl];unfold J6;simp only[Yt,I,C,ZC,ZD,ZE,ZF];generalize (!Qc b.2.1 k0)=i0;generalize (!Qc b.2.2.2.1 k0)=i1;generalize (!Qc b.2.2.2.2.1 k0)=i2;generalize (!decide (b.2.2.2.2.2.1=0))=i3;generalize (!decide (b.2.2.2.2.2.2.1=0))=i4;generalize (!(b.2.2.2.2.2.2.2.1==k0&&(decide (b.2.2.2.2.2.2.2.2.1=0)&&(b.2.2.2.2.2.2.2.2.2.1==k0&&true))))=i5;generalize (decide ((0:Int)<(b.2.2.2.2.2.2.2.2.2.2.length:Int)))=i6;cases i0<;>cases i1<;>cases i2<;>cases i3<;>cases i4<;>cases i5<;>cases i6<;>rfl
  ·simp only[hq,decide_false,C,cond_true,cond_false,if_false,j]
 ·simp only[hd,decide_false,C,cond_true,if_false]
theorem Yre{F:Nat}(hF:400<=F){b:Q0}(h:Zy b):Qj3 F b=some (Z7 false true false false false false false false false b):=by unfold Qj3 tw;simp only[Ylx hF h,j,Vi,Zb]
theorem Zsb{F:Nat}(hF:400<=F){b:Q0}(h:Zy b):Qxr F b=some (Z7 true true true false true false false false false b):=by
 unfold Qxr;rw[show Z7 true true true false true false false false false b=Qi (Yp b.1::([Yd b.2.1,Yd b.2.2.1,Yd b.2.2.2.1,0,Yp b.2.2.2.2.2.1,0,0]++[0,0,if J6 true true true false true false false false b=true then 1 else 0]))from rfl,Xr,Qay];simp only[Xl hF h.a,Xl hF h.c,Xl hF h.g,Xl hF h.k,Qc4,Qbv hF,Qeb,Qdl,Qbs hF,Qdn hF,fz2,j,Yan,Yn0,Qdo hF h,l99 hF,mkR];generalize hz:Qi [Yd b.2.1,Yd b.2.2.1,Yd b.2.2.2.1,0,Yp b.2.2.2.2.2.1,0,0]=z;by_cases hd:Yp b.1=0
 ·simp only[hd,decide_true,I,cond_false,if_true];by_cases hq:z=0
  ·simp only[hq,decide_true,I,cond_true,cond_false,if_true,j];simp only[Xr,if_true];rw[show(YC:ByteArray)=k0 from rfl];unfold J6;simp only[Yt,I,C,ZC,ZD,ZE,ZF];generalize (!Qc b.2.2.2.2.1 k0)=i0;generalize (!decide (b.2.2.2.2.2.2.1=0))=i1;generalize (!(b.2.2.2.2.2.2.2.1==k0&&(decide (b.2.2.2.2.2.2.2.2.1=0)&&(b.2.2.2.2.2.2.2.2.2.1==k0&&true))))=i2;generalize (decide ((0:Int)<(b.2.2.2.2.2.2.2.2.2.2.length:Int)))=i3;cases i0<;>cases i1<;>cases i2<;>cases i3<;>rfl
  ·simp only[hq,decide_false,C,cond_true,cond_false,if_false,j]
 ·simp only[hd,decide_false,C,cond_true,if_false]
theorem Yfx{F:Nat}(hF:400<=F){b:Q0}(h:Zy b):Qm1 F b=some (Z7 true true true false true false false false false b):=by unfold Qm1 tw;simp only[Zsb hF h,j,Vi,Zb]
theorem Zyh{F:Nat}(hF:400<=F){b:Q0}(h:Zy b):Qzl F b=some (Z7 true false false false true true false false true b):=by
 unfold Qzl;rw[show Z7 true false false false true true false false true b=Qi (Yp b.1::([Yd b.2.1,0,0,0,Yp b.2.2.2.2.2.1,Yp b.2.2.2.2.2.2.1,Qc2 b]++[0,0,if J6 true false false false true true false false b=true then 1 else 0]))from rfl,Xr,Qay];simp only[Xl hF h.a,Xl hF h.c,Xl hF h.g,Xl hF h.k,Qc4,Qbv hF,Qeb,Qdl,Qbs hF,Qdn hF,fz2,j,Ysk,Yc9,Qdo hF h,l99 hF,mkR];generalize hz:Qi [Yd b.2.1,0,0,0,Yp b.2.2.2.2.2.1,Yp b.2.2.2.2.2.2.1,Qc2 b]=z;by_cases hd:Yp b.1=0
 ·simp only[hd,decide_true,I,cond_false,if_true];by_cases hq:z=0
  ·simp only[hq,decide_true,I,cond_true,cond_false,if_true,j];simp only[Xr,if_true];rw[show(YC:ByteArray)=k0 from rfl];unfold J6;simp only[Yt,I,C,ZC,ZD,ZE,ZF];generalize (!Qc b.2.2.1 k0)=i0;generalize (!Qc b.2.2.2.1 k0)=i1;generalize (!Qc b.2.2.2.2.1 k0)=i2;generalize (!(b.2.2.2.2.2.2.2.1==k0&&(decide (b.2.2.2.2.2.2.2.2.1=0)&&(b.2.2.2.2.2.2.2.2.2.1==k0&&true))))=i3;generalize (decide ((0:Int)<(b.2.2.2.2.2.2.2.2.2.2.length:Int)))=i4;cases i0<;>cases i1<;>cases i2<;>cases i3<;>cases i4<;>rfl
  ·simp only[hq,decide_false,C,cond_true,cond_false,if_false,j]
 ·simp only[hd,decide_false,C,cond_true,if_false]
theorem Yn8{F:Nat}(hF:400<=F){b:Q0}(h:Zy b):Qlc F b=some (Z7 true false false false true true false false true b):=by unfold Qlc tw;simp only[Zyh hF h,j,Vi,Zb]
theorem Zxc{F:Nat}(hF:400<=F){b:Q0}(h:Zy b):Qzr F b=some (Z7 true true false false false false false false false b):=by
 unfold Qzr;rw[show Z7 true true false false false false false false false b=Qi (Yp b.1::([Yd b.2.1,Yd b.2.2.1,0,0,0,0,0]++[0,0,if J6 true true false false false false false false b=true then 1 else 0]))from rfl,Xr,Qay];simp only[Xl hF h.a,Xl hF h.c,Xl hF h.g,Xl hF h.k,Qc4,Qbv hF,Qeb,Qdl,Qbs hF,Qdn hF,fz2,j,Zzh,Ztz,Qdo hF h,l99 hF,mkR];generalize hz:Qi [Yd b.2.1,Yd b.2.2.1,0,0,0,0,0]=z;by_cases hd:Yp b.1=0
 ·simp only[hd,decide_true,I,cond_false,if_true];by_cases hq:z=0
  ·simp only[hq,decide_true,I,cond_true,cond_false,if_true,j];simp only[Xr,if_true];rw[show(YC:ByteArray)=k0 from rfl];unfold J6;simp only[Yt,I,C,ZC,ZD,ZE,ZF];generalize (!Qc b.2.2.2.1 k0)=i0;generalize (!Qc b.2.2.2.2.1 k0)=i1;generalize (!decide (b.2.2.2.2.2.1=0))=i2;generalize (!decide (b.2.2.2.2.2.2.1=0))=i3;generalize (!(b.2.2.2.2.2.2.2.1==k0&&(decide (b.2.2.2.2.2.2.2.2.1=0)&&(b.2.2.2.2.2.2.2.2.2.1==k0&&true))))=i4;generalize (decide ((0:Int)<(b.2.2.2.2.2.2.2.2.2.2.length:Int)))=i5;cases i0<;>cases i1<;>cases i2<;>cases i3<;>cases i4<;>cases i5<;>rfl
  ·simp only[hq,decide_false,C,cond_true,cond_false,if_false,j]
 ·simp only[hd,decide_false,C,cond_true,if_false]
theorem Yp9{F:Nat}(hF:400<=F){b:Q0}(h:Zy b):Qkd F b=some (Z7 true true false false false false false false false b):=by unfold Qkd tw;simp only[Zxc hF h,j,Vi,Zb]
theorem Zoc{F:Nat}(hF:400<=F){b:Q0}(h:Zy b):Qwq F b=some (Z7 true false false true false false true false false b):=by
 unfold Qwq;rw[show Z7 true false false true false false true false false b=Qi (Yp b.1::([Yd b.2.1,0,0,Yd b.2.2.2.2.1,0,0,0]++[Qgw b,0,if J6 true false false true false false true false b=true then 1 else 0]))from rfl,Xr,Qay];simp only[Xl hF h.a,Xl hF h.c,Xl hF h.g,Xl hF h.k,Qc4,Qbv hF,Qeb,Qdl,Qbs hF,Qdn hF,fz2,j,Zus,Yj3,Qdo hF h,l99 hF,mkR];generalize hz:Qi [Yd b.2.1,0,0,Yd b.2.2.2.2.1,0,0,0]=z;by_cases hd:Yp b.1=0
 ·simp only[hd,decide_true,I,cond_false,if_true];by_cases hq:z=0
  ·simp only[hq,decide_true,I,cond_true,cond_false,if_true,j];by_cases hm:Qgw b=0
   ·simp only[hm,Xr,decide_true,I,cond_true,cond_false,if_true,j];rw[show(YC:ByteArray)=k0 from rfl];unfold J6;simp only[Yt,I,C,ZC,ZD,ZE,ZF];generalize (!Qc b.2.2.1 k0)=i0;generalize (!Qc b.2.2.2.1 k0)=i1;generalize (!decide (b.2.2.2.2.2.1=0))=i2;generalize (!decide (b.2.2.2.2.2.2.1=0))=i3;generalize (decide ((0:Int)<(b.2.2.2.2.2.2.2.2.2.2.length:Int)))=i4;cases i0<;>cases i1<;>cases i2<;>cases i3<;>cases i4<;>rfl
   ·simp only[hm,Xr,decide_false,C,cond_true,cond_false,if_false,j]
  ·simp only[hq,decide_false,C,cond_true,cond_false,if_false,j]
 ·simp only[hd,decide_false,C,cond_true,if_false]
theorem Zst{F:Nat}(hF:400<=F){b:Q0}(h:Zy b):Qls F b=some (Z7 true false false true false false true false false b):=by unfold Qls tw;simp only[Zoc hF h,j,Vi,Zb]
theorem Zre{F:Nat}(hF:400<=F){b:Q0}(h:Zy b):Qwt F b=some (Z7 true false false true false false false false false b):=by
 unfold Qwt;rw[show Z7 true false false true false false false false false b=Qi (Yp b.1::([Yd b.2.1,0,0,Yd b.2.2.2.2.1,0,0,0]++[0,0,if J6 true false false true false false false false b=true then 1 else 0]))from rfl,Xr,Qay];simp only[Xl hF h.a,Xl hF h.c,Xl hF h.g,Xl hF h.k,Qc4,Qbv hF,Qeb,Qdl,Qbs hF,Qdn hF,fz2,j,Zi9,Zfd,Qdo hF h,l99 hF,mkR];generalize hz:Qi [Yd b.2.1,0,0,Yd b.2.2.2.2.1,0,0,0]=z;by_cases hd:Yp b.1=0
 ·simp only[hd,decide_true,I,cond_false,if_true];by_cases hq:z=0
  ·simp only[hq,decide_true,I,cond_true,cond_false,if_true,j];simp only[Xr,if_true];rw[show(YC:ByteArray)=k0 from rfl];unfold J6;simp only[Yt,I,C,ZC,ZD,ZE,ZF];generalize (!Qc b.2.2.1 k0)=i0;generalize (!Qc b.2.2.2.1 k0)=i1;generalize (!decide (b.2.2.2.2.2.1=0))=i2;generalize (!decide (b.2.2.2.2.2.2.1=0))=i3;generalize (!(b.2.2.2.2.2.2.2.1==k0&&(decide (b.2.2.2.2.2.2.2.2.1=0)&&(b.2.2.2.2.2.2.2.2.2.1==k0&&true))))=i4;generalize (decide ((0:Int)<(b.2.2.2.2.2.2.2.2.2.2.length:Int)))=i5;cases i0<;>cases i1<;>cases i2<;>cases i3<;>cases i4<;>cases i5<;>rfl
  ·simp only[hq,decide_false,C,cond_true,cond_false,if_false,j]
 ·simp only[hd,decide_false,C,cond_true,if_false]
theorem Zue{F:Nat}(hF:400<=F){b:Q0}(h:Zy b):Qm5 F b=some (Z7 true false false true false false false false false b):=by unfold Qm5 tw;simp only[Zre hF h,j,Vi,Zb]
theorem Ylt{F:Nat}(hF:400<=F){b:Q0}(h:Zy b):Qzb F b=some (Z7 true false false true false false false false false b):=by
 unfold Qzb;rw[show Z7 true false false true false false false false false b=Qi (Yp b.1::([Yd b.2.1,0,0,Yd b.2.2.2.2.1,0,0,0]++[0,0,if J6 true false false true false false false false b=true then 1 else 0]))from rfl,Xr,Qay];simp only[Xl hF h.a,Xl hF h.c,Xl hF h.g,Xl hF h.k,Qc4,Qbv hF,Qeb,Qdl,Qbs hF,Qdn hF,fz2,j,Zi9,Zfd,Qdo hF h,l99 hF,mkR];generalize hz:Qi [Yd b.2.1,0,0,Yd b.2.2.2.2.1,0,0,0]=z;by_cases hd:Yp b.1=0
 ·simp only[hd,decide_true,I,cond_false,if_true];by_cases hq:z=0
  ·simp only[hq,decide_true,I,cond_true,cond_false,if_true,j];simp only[Xr,if_true];rw[show(YC:ByteArray)=k0 from rfl];unfold J6;simp only[Yt,I,C,ZC,ZD,ZE,ZF];generalize (!Qc b.2.2.1 k0)=i0;generalize (!Qc b.2.2.2.1 k0)=i1;generalize (!decide (b.2.2.2.2.2.1=0))=i2;generalize (!decide (b.2.2.2.2.2.2.1=0))=i3;generalize (!(b.2.2.2.2.2.2.2.1==k0&&(decide (b.2.2.2.2.2.2.2.2.1=0)&&(b.2.2.2.2.2.2.2.2.2.1==k0&&true))))=i4;generalize (decide ((0:Int)<(b.2.2.2.2.2.2.2.2.2.2.length:Int)))=i5;cases i0<;>cases i1<;>cases i2<;>cases i3<;>cases i4<;>cases i5<;>rfl
  ·simp only[hq,decide_false,C,cond_true,cond_false,if_false,j]
 ·simp only[hd,decide_false,C,cond_true,if_false]
theorem Yj7{F:Nat}(hF:400<=F){b:Q0}(h:Zy b):Qkb F b=some (Z7 true false false true false false false false false b):=by unfold Qkb tw;simp only[Ylt hF h,j,Vi,Zb]
theorem Ym8{F:Nat}(hF:400<=F){b:Q0}(h:Zy b):Qui F b=some (Z7 false true false true false false false true false b):=by
 unfold Qui;rw[show Z7 false true false true false false false true false b=Qi (Yp b.1::([0,Yd b.2.2.1,0,Yd b.2.2.2.2.1,0,0,0]++[0,Qdg b.2.2.2.2.2.2.2.2.2.2,if J6 false true false true false false false true b=true then 1 else 0]))from rfl,Xr,Qay];simp only[Xl hF h.a,Xl hF h.c,Xl hF h.g,Xl hF h.k,Qc4,Qbv hF,Qeb,Qdl,Qbs hF,Qdn hF,fz2,j,Ykg,Yna,Qdo hF h,l99 hF,mkR];generalize hz:Qi [0,Yd b.2.2.1,0,Yd b.2.2.2.2.1,0,0,0]=z;by_cases hd:Yp b.1=0
 ·simp only[hd,decide_true,I,cond_false,if_true];by_cases hq:z=0
  ·simp only[hq,decide_true,I,cond_true,cond_false,if_true,j];simp only[Yt,Qbs hF,Ypf,j];by_cases hm:Qdg b.2.2.2.2.2.2.2.2.2.2=0
   ·simp only[hm,Xr,decide_true,I,cond_true,cond_false,if_true,j];rw[show(YC:ByteArray)=k0 from rfl];unfold J6;simp only[Yt,I,C,ZC,ZD,ZE,ZF];generalize (!Qc b.2.1 k0)=i0;generalize (!Qc b.2.2.2.1 k0)=i1;generalize (!decide (b.2.2.2.2.2.1=0))=i2;generalize (!decide (b.2.2.2.2.2.2.1=0))=i3;generalize (!(b.2.2.2.2.2.2.2.1==k0&&(decide (b.2.2.2.2.2.2.2.2.1=0)&&(b.2.2.2.2.2.2.2.2.2.1==k0&&true))))=i4;cases i0<;>cases i1<;>cases i2<;>cases i3<;>cases i4<;>rfl
   ·simp only[hm,Xr,decide_false,C,cond_true,cond_false,if_false,j,if_true]
  ·simp only[hq,decide_false,C,cond_true,cond_false,if_false,j]
 ·simp only[hd,decide_false,C,cond_true,if_false]
theorem Yiy{F:Nat}(hF:400<=F){b:Q0}(h:Zy b):Qmt F b=some (Z7 false true false true false false false true false b):=by unfold Qmt tw;simp only[Ym8 hF h,j,Vi,Zb]
def Y0(a:Zw):Int:=
 if Qc a.2.1 Yz=true then Z7 false true false false false false false false false (a.1,a.2.2)
 else if Qc a.2.1 Yv=true then Z7 true true true false true false false false false (a.1,a.2.2)
 else if Qc a.2.1 Y9=true then Z7 true false false false true true false false true (a.1,a.2.2)
 else if Qc a.2.1 Yo=true then Z7 true true false false false false false false false (a.1,a.2.2)
 else if Qc a.2.1 Xa=true then Z7 true false false true false false true false false (a.1,a.2.2)
 else if Qc a.2.1 Xf=true then Z7 true false false true false false false false false (a.1,a.2.2)
 else if Qc a.2.1 Xb=true then Z7 true false false true false false false false false (a.1,a.2.2)
 else if Qc a.2.1 Y8=true then Z7 false true false true false false false true false (a.1,a.2.2)
 else 13
theorem Zrr{F:Nat}(hF:400<=F)(a:Zw)(h:Qc a.2.1 Yz=false∧Qc a.2.1 Yv=false∧Qc a.2.1 Y9=false∧Qc a.2.1 Yo=false∧Qc a.2.1 Xa=false∧Qc a.2.1 Xf=false∧Qc a.2.1 Xb=false∧Qc a.2.1 Y8=false):Qlk F a=some 13:=by obtain⟨h0,h1,h2,h3,h4,h5,h6,h7⟩:=h;have h0:Qc a.2.1 YJ=false:=h0;have h1:Qc a.2.1 YF=false:=h1;have h2:Qc a.2.1 YG=false:=h2;have h3:Qc a.2.1 YD=false:=h3;have h4:Qc a.2.1 YE=false:=h4;have h5:Qc a.2.1 YB=false:=h5;have h6:Qc a.2.1 YH=false:=h6;have h7:Qc a.2.1 YI=false:=h7;unfold Qlk tw;simp only[h0,h1,h2,h3,h4,h5,h6,h7,Qbv hF,C,Zb,j,Vi]
theorem l23{F:Nat}(hF:400<=F){a:Zw}(h:Zy (a.1,a.2.2)):c23 F a=some (Y0 a):=by
 unfold c23 Y0;rw[show Qka=Yz from rfl];by_cases h0:Qc a.2.1 Yz=true
 ·rw[h0,cond_true,if_pos rfl,Yre hF h]
 ·rw[o.2 h0,cond_false,if_neg (by decide)];rw[show Qmb=Yv from rfl];by_cases h1:Qc a.2.1 Yv=true
  ·rw[h1,cond_true,if_pos rfl,Yfx hF h]
  ·rw[o.2 h1,cond_false,if_neg (by decide)];rw[show Qkh=Y9 from rfl];by_cases h2:Qc a.2.1 Y9=true
   ·rw[h2,cond_true,if_pos rfl,Yn8 hF h]
   ·rw[o.2 h2,cond_false,if_neg (by decide)];rw[show Qlm=Yo from rfl];by_cases h3:Qc a.2.1 Yo=true
    ·rw[h3,cond_true,if_pos rfl,Yp9 hF h]
    ·rw[o.2 h3,cond_false,if_neg (by decide)];rw[show Qlf=Xa from rfl];by_cases h4:Qc a.2.1 Xa=true
     ·rw[h4,cond_true,if_pos rfl,Zst hF h]
     ·rw[o.2 h4,cond_false,if_neg (by decide)];rw[show Qmn=Xf from rfl];by_cases h5:Qc a.2.1 Xf=true
      ·rw[h5,cond_true,if_pos rfl,Zue hF h]
      ·rw[o.2 h5,cond_false,if_neg (by decide)];rw[show Qlh=Xb from rfl];by_cases h6:Qc a.2.1 Xb=true
       ·rw[h6,cond_true,if_pos rfl,Yj7 hF h]
       ·rw[o.2 h6,cond_false,if_neg (by decide)];rw[show Qlt=Y8 from rfl];by_cases h7:Qc a.2.1 Y8=true
        ·rw[h7,cond_true,if_pos rfl,Yiy hF h]
        ·rw[o.2 h7,cond_false,if_neg (by decide)];exact Zrr hF a ⟨o.2 h0,o.2 h1,o.2 h2,o.2 h3,o.2 h4,o.2 h5,o.2 h6,o.2 h7⟩
theorem Zn5{F:Nat}(hF:400<=F){s:ByteArray}(h:Qc s Yz=false∧Qc s Yv=false∧Qc s Y9=false∧Qc s Yo=false∧Qc s Xa=false∧Qc s Xf=false∧Qc s Xb=false∧Qc s Y8=false):Ks F s=some YC:=by
 obtain⟨G,rfl⟩:∃G,F=G+9:=⟨F-9,by omega⟩;obtain⟨h0,h1,h2,h3,h4,h5,h6,h7⟩:=h;have h0:Qc Yz s=false:=by rw[Qb5];exact h0
 have h1:Qc Yv s=false:=by rw[Qb5];exact h1
 have h2:Qc Y9 s=false:=by rw[Qb5];exact h2
 have h3:Qc Yo s=false:=by rw[Qb5];exact h3
 have h4:Qc Xa s=false:=by rw[Qb5];exact h4
 have h5:Qc Xf s=false:=by rw[Qb5];exact h5
 have h6:Qc Xb s=false:=by rw[Qb5];exact h6
 have h7:Qc Y8 s=false:=by rw[Qb5];exact h7
 refine Jy [Yz,Yv,Y9,Yo,Xa,Xf,Xb,Y8] (fun(_:Unit) i=>(i:Int)) (fun x (_:Unit)=>.inl ()) (fun _=>(.inr ():ByteArray ⊕ Unit)) (fun _ _=>True) () (by show 8<G+9;omega) rfl trivial ?_ ?_ ?_
 ·intro i x _ hi hx _;refine⟨?_,fun _ _=>trivial⟩;have hi:i<8:=hi;have hk:Qc ([Yz,Yv,Y9,Yo,Xa,Xf,Xb,Y8].getD (0+i) ByteArray.empty) s=false:=by
   match i,hi with
   |0,_=>exact h0
   |1,_=>exact h1
   |2,_=>exact h2
   |3,_=>exact h3
   |4,_=>exact h4
   |5,_=>exact h5
   |6,_=>exact h6
   |7,_=>exact h7
  have hk:Qc (([Yz,Yv,Y9,Yo,Xa,Xf,Xb,Y8]:List ByteArray).getD (0+(i:Int).toNat) ByteArray.empty) s=false:=hk;simp(disch:=omega)only[Z1,Ze,Zu];exact(congrArg (fun b=>bif b then _ else _) hk)
 ·intro _ _;rfl
 ·rfl
theorem l24{F:Nat}(hF:400<=F){a:Zw}(h:Zy (a.1,a.2.2)):c24 F a=some (Y0 a):=by
 unfold Y0;by_cases h0:Qc a.2.1 Yz=true
 ·rw[if_pos h0];have e:=Zyz hF (a.1,a.2.2) h.n;rw[<-Y1.1 h0]at e;exact e
 ·rw[if_neg h0];by_cases h1:Qc a.2.1 Yv=true
  ·rw[if_pos h1];have e:=Zn1 hF (a.1,a.2.2) h.n;rw[<-Y1.1 h1]at e;exact e
  ·rw[if_neg h1];by_cases h2:Qc a.2.1 Y9=true
   ·rw[if_pos h2];have e:=Ynx hF (a.1,a.2.2) h.n;rw[<-Y1.1 h2]at e;exact e
   ·rw[if_neg h2];by_cases h3:Qc a.2.1 Yo=true
    ·rw[if_pos h3];have e:=Zz1 hF (a.1,a.2.2) h.n;rw[<-Y1.1 h3]at e;exact e
    ·rw[if_neg h3];by_cases h4:Qc a.2.1 Xa=true
     ·rw[if_pos h4];have e:=Ykt hF (a.1,a.2.2) h.n;rw[<-Y1.1 h4]at e;exact e
     ·rw[if_neg h4];by_cases h5:Qc a.2.1 Xf=true
      ·rw[if_pos h5];have e:=Zw4 hF (a.1,a.2.2) h.n;rw[<-Y1.1 h5]at e;exact e
      ·rw[if_neg h5];by_cases h6:Qc a.2.1 Xb=true
       ·rw[if_pos h6];have e:=Yl6 hF (a.1,a.2.2) h.n;rw[<-Y1.1 h6]at e;exact e
       ·rw[if_neg h6];by_cases h7:Qc a.2.1 Y8=true
        ·rw[if_pos h7];have e:=Ych hF (a.1,a.2.2) h.n;rw[<-Y1.1 h7]at e;exact e
        ·rw[if_neg h7];unfold c24;rw[Zn5 hF ⟨o.2 h0,o.2 h1,o.2 h2,o.2 h3,o.2 h4,o.2 h5,o.2 h6,o.2 h7⟩];rfl
end Go.Proofs.Tryz
