/- Plain law: CheckAct of the program, by kinds. -/
import Derived.Test.YtpkbmngnolhopaaGreatDoorXT3i
import Derived.Test.YtpkbmngnolhopaaGreatDoorXTeK23b
set_option maxRecDepth 100000
set_option linter.unusedVariables false
set_option linter.unusedSimpArgs false
namespace Go.Proofs.Tryz
open Go Go.Sx
structure Zt (b:Qz):Prop where
 a:b.2.1.size≤60
 c:b.2.2.1.size≤60
 g:b.2.2.2.1.size≤60
 k:b.2.2.2.2.1.size≤60
 n:b.2.2.2.2.2.2.2.2.2.2.length≤10
 m:∀x∈b.2.2.2.2.2.2.2.2.2.2,x.size≤60
theorem Y2{F:Nat}(hF:400≤F){s:ByteArray}(hs:s.size≤60):c98 F s=some (X4 s):=l98 hF (by omega)
theorem Qan{F:Nat}(hF:400≤F)(d:Int):Z5 F (d::Qa Int)=some (Yn d):=by rw[l85 (by simp[Qa];omega) (by simp[Qa])];simp[Qa,Yn]
theorem Qao{F:Nat}(hF:400≤F)(a b:Int):Qy F (a::b::Qa Int)=some (Qp [a,b]):=Ww hF (by simp[Qa])
theorem Qbl{F:Nat}(hF:400≤F)(a b c d e f g:Int):Qy F (a::b::c::d::e::f::g::Qa Int)=some (Qp [a,b,c,d,e,f,g]):=Ww hF (by simp[Qa])
theorem Qbs(F:Nat)(s:ByteArray):Ql F (!X4 s,8)=some (Z6 s):=by rw[l86];unfold Z6;cases X4 s<;>rfl
theorem Qa9(F:Nat)(d:Int):Ql F (!decide (Yn d=0),3)=some (Yn d):=by rw[l86];unfold Yn;cases Yz d<;>rfl
theorem Qcb(F:Nat)(b:Qz):Ql F (decide (b.2.2.2.2.2.2.1<b.2.2.2.2.2.1),11)=some (Qem b):=by rw[l86];unfold Qem;by_cases h:b.2.2.2.2.2.2.1<b.2.2.2.2.2.1<;>simp[h]
theorem mkR(b:Qz):Wd b.2.2.2.2.2.2.2.1 b.2.2.2.2.2.2.2.2.1 b.2.2.2.2.2.2.2.2.2.1=Qgx b:=rfl
theorem fz2(d:Int):Qp [0,d]=d:=by show(if(0:Int)=0 then(if d=0 then 0 else d)else 0)=d;by_cases h:d=0<;>simp[h]
theorem Qbo{F:Nat}(hF:400≤F){b:Qz}(h:Zt b):Kz F b.2.2.2.2.2.2.2.2.2.2=some (Qp (b.2.2.2.2.2.2.2.2.2.2.map Z6)):=by
 have h1:=h.n;unfold Kz;refine Qdm b.2.2.2.2.2.2.2.2.2.2 Z6 (by omega) ?_ ?_ ?_
 ·intro i x hi hx;have hs:=h.m x (List.mem_of_getElem? hx);have e:Qn4 F ((i:Int),x)=some (Z6 x):=by unfold Qn4;simp only[l92 hF (show x.size≤300 by omega),Option.bind_some];rfl
  simp(disch:=omega)only[Z7,Zc,Int.toNat_natCast,getD_some hx,Z0,e,Option.bind_some,Nat.zero_add];by_cases h0:Z6 x=0<;>simp[h0]
 ·simp(disch:=omega)only[Z8]
 ·by_cases h2:Qp (b.2.2.2.2.2.2.2.2.2.2.map Z6)=0<;>simp[h2]
theorem Zmd(l:List ByteArray):Qp [if decide ((8:Int)<(l.length:Int))=true then 5 else 0,Qp (l.map Z6)]=Qb1 l:=by
 unfold Qb1;by_cases h:8<l.length
 ·have h':(8:Int)<l.length:=by omega
  simp[h,h',Qp]
 ·have h':¬(8:Int)<l.length:=by omega
  simp only[h,h',decide_false,if_false,Bool.false_eq_true];exact fz2 _
theorem Zwc:(!Decidable.decide (Go.IntKind.wrap Go.IntKind.i64 ((BitVec.toNat (BitVec.ofInt (64:Nat) (2:Int)&&& BitVec.ofInt (64:Nat) (64:Int)):Nat):Int)=(0:Int)))=false:=by rfl
theorem Yei:(!Decidable.decide (Go.IntKind.wrap Go.IntKind.i64 ((BitVec.toNat (BitVec.ofInt (64:Nat) (2:Int)&&& BitVec.ofInt (64:Nat) (128:Int)):Nat):Int)=(0:Int)))=false:=by rfl
theorem Zxg:(!Decidable.decide (Go.IntKind.wrap Go.IntKind.i64 ((BitVec.toNat (BitVec.ofInt (64:Nat) (3:Int)&&& BitVec.ofInt (64:Nat) (64:Int)):Nat):Int)=(0:Int)))=false:=by rfl
theorem Zy5:(!Decidable.decide (Go.IntKind.wrap Go.IntKind.i64 ((BitVec.toNat (BitVec.ofInt (64:Nat) (3:Int)&&& BitVec.ofInt (64:Nat) (128:Int)):Nat):Int)=(0:Int)))=false:=by rfl
theorem Qx5:(!Decidable.decide (Go.IntKind.wrap Go.IntKind.i64 ((BitVec.toNat (BitVec.ofInt (64:Nat) (9:Int)&&& BitVec.ofInt (64:Nat) (64:Int)):Nat):Int)=(0:Int)))=false:=by rfl
theorem Zek:(!Decidable.decide (Go.IntKind.wrap Go.IntKind.i64 ((BitVec.toNat (BitVec.ofInt (64:Nat) (9:Int)&&& BitVec.ofInt (64:Nat) (128:Int)):Nat):Int)=(0:Int)))=false:=by rfl
theorem Ygj:(!Decidable.decide (Go.IntKind.wrap Go.IntKind.i64 ((BitVec.toNat (BitVec.ofInt (64:Nat) (23:Int)&&& BitVec.ofInt (64:Nat) (64:Int)):Nat):Int)=(0:Int)))=false:=by rfl
theorem Zzg:(!Decidable.decide (Go.IntKind.wrap Go.IntKind.i64 ((BitVec.toNat (BitVec.ofInt (64:Nat) (23:Int)&&& BitVec.ofInt (64:Nat) (128:Int)):Nat):Int)=(0:Int)))=false:=by rfl
theorem Zsr:(!Decidable.decide (Go.IntKind.wrap Go.IntKind.i64 ((BitVec.toNat (BitVec.ofInt (64:Nat) (49:Int)&&& BitVec.ofInt (64:Nat) (64:Int)):Nat):Int)=(0:Int)))=false:=by rfl
theorem Zuc:(!Decidable.decide (Go.IntKind.wrap Go.IntKind.i64 ((BitVec.toNat (BitVec.ofInt (64:Nat) (49:Int)&&& BitVec.ofInt (64:Nat) (128:Int)):Nat):Int)=(0:Int)))=false:=by rfl
theorem Zm2:(!Decidable.decide (Go.IntKind.wrap Go.IntKind.i64 ((BitVec.toNat (BitVec.ofInt (64:Nat) (73:Int)&&& BitVec.ofInt (64:Nat) (64:Int)):Nat):Int)=(0:Int)))=true:=by rfl
theorem Zop:(!Decidable.decide (Go.IntKind.wrap Go.IntKind.i64 ((BitVec.toNat (BitVec.ofInt (64:Nat) (73:Int)&&& BitVec.ofInt (64:Nat) (128:Int)):Nat):Int)=(0:Int)))=false:=by rfl
theorem Yh1:(!Decidable.decide (Go.IntKind.wrap Go.IntKind.i64 ((BitVec.toNat (BitVec.ofInt (64:Nat) (138:Int)&&& BitVec.ofInt (64:Nat) (64:Int)):Nat):Int)=(0:Int)))=false:=by rfl
theorem Yj5:(!Decidable.decide (Go.IntKind.wrap Go.IntKind.i64 ((BitVec.toNat (BitVec.ofInt (64:Nat) (138:Int)&&& BitVec.ofInt (64:Nat) (128:Int)):Nat):Int)=(0:Int)))=true:=by rfl
theorem Yeq{F:Nat}(hF:400≤F){b:Qz}(h:Zt b):Qln F b=some (Z2 false true false false false false false false false b):=by
 unfold Qln;rw[show Z2 false true false false false false false false false b=Qp (Yn b.1::([0,Z6 b.2.2.1,0,0,0,0,0]++[0,0,if Ji false true false false false false false false b=true then 1 else 0]))from rfl,Y9,Ut];simp only[Y2 hF h.a,Y2 hF h.c,Y2 hF h.g,Y2 hF h.k,Qbs,Qan hF,Qa9,Qcb,Qao hF,Qbl hF,fz2,Option.bind_some,Zwc,Yei,Qbo hF h,l99 hF,mkR];generalize hz:Qp [0,Z6 b.2.2.1,0,0,0,0,0]=z;by_cases hd:Yn b.1=0
 ·simp only[hd,decide_true,Bool.not_true,cond_false,if_true];by_cases hq:z=0
  ·simp only[hq,decide_true,Bool.not_true,cond_true,cond_false,if_true,Option.bind_some];simp only[Y9,if_true];rw[show({data:=List.toArray (Qa UInt8)}:ByteArray)=k0 from rfl];unfold Ji;simp only[l86,Bool.not_true,Bool.not_false,Bool.false_and,Bool.true_and,Bool.false_or,Bool.or_false];generalize (!Qc b.2.1 k0)=i0;generalize (!Qc b.2.2.2.1 k0)=i1;generalize (!Qc b.2.2.2.2.1 k0)=i2;generalize (!decide (b.2.2.2.2.2.1=0))=i3;generalize (!decide (b.2.2.2.2.2.2.1=0))=i4;generalize (!(b.2.2.2.2.2.2.2.1==k0&&(decide (b.2.2.2.2.2.2.2.2.1=0)&&(b.2.2.2.2.2.2.2.2.2.1==k0&&true))))=i5;generalize (decide ((0:Int)<(b.2.2.2.2.2.2.2.2.2.2.length:Int)))=i6;cases i0<;>cases i1<;>cases i2<;>cases i3<;>cases i4<;>cases i5<;>cases i6<;>rfl
  ·simp only[hq,decide_false,Bool.not_false,cond_true,cond_false,if_false,Option.bind_some]
 ·simp only[hd,decide_false,Bool.not_false,cond_true,if_false]
theorem Yjb{F:Nat}(hF:400≤F){b:Qz}(h:Zt b):Qku F b=some (Z2 false true false false false false false false false b):=by unfold Qku tw;simp only[Yeq hF h,Option.bind_some,Kd,Za]
theorem Zxm{F:Nat}(hF:400≤F){b:Qz}(h:Zt b):Qqg F b=some (Z2 true true true false true false false false false b):=by
 unfold Qqg;rw[show Z2 true true true false true false false false false b=Qp (Yn b.1::([Z6 b.2.1,Z6 b.2.2.1,Z6 b.2.2.2.1,0,Yn b.2.2.2.2.2.1,0,0]++[0,0,if Ji true true true false true false false false b=true then 1 else 0]))from rfl,Y9,Ut];simp only[Y2 hF h.a,Y2 hF h.c,Y2 hF h.g,Y2 hF h.k,Qbs,Qan hF,Qa9,Qcb,Qao hF,Qbl hF,fz2,Option.bind_some,Ygj,Zzg,Qbo hF h,l99 hF,mkR];generalize hz:Qp [Z6 b.2.1,Z6 b.2.2.1,Z6 b.2.2.2.1,0,Yn b.2.2.2.2.2.1,0,0]=z;by_cases hd:Yn b.1=0
 ·simp only[hd,decide_true,Bool.not_true,cond_false,if_true];by_cases hq:z=0
  ·simp only[hq,decide_true,Bool.not_true,cond_true,cond_false,if_true,Option.bind_some];simp only[Y9,if_true];rw[show({data:=List.toArray (Qa UInt8)}:ByteArray)=k0 from rfl];unfold Ji;simp only[l86,Bool.not_true,Bool.not_false,Bool.false_and,Bool.true_and,Bool.false_or,Bool.or_false];generalize (!Qc b.2.2.2.2.1 k0)=i0;generalize (!decide (b.2.2.2.2.2.2.1=0))=i1;generalize (!(b.2.2.2.2.2.2.2.1==k0&&(decide (b.2.2.2.2.2.2.2.2.1=0)&&(b.2.2.2.2.2.2.2.2.2.1==k0&&true))))=i2;generalize (decide ((0:Int)<(b.2.2.2.2.2.2.2.2.2.2.length:Int)))=i3;cases i0<;>cases i1<;>cases i2<;>cases i3<;>rfl
  ·simp only[hq,decide_false,Bool.not_false,cond_true,cond_false,if_false,Option.bind_some]
 ·simp only[hd,decide_false,Bool.not_false,cond_true,if_false]
theorem Yar{F:Nat}(hF:400≤F){b:Qz}(h:Zt b):Qit F b=some (Z2 true true true false true false false false false b):=by unfold Qit tw;simp only[Zxm hF h,Option.bind_some,Kd,Za]
theorem Zo2{F:Nat}(hF:400≤F){b:Qz}(h:Zt b):Qvs F b=some (Z2 true false false false true true false false true b):=by
 unfold Qvs;rw[show Z2 true false false false true true false false true b=Qp (Yn b.1::([Z6 b.2.1,0,0,0,Yn b.2.2.2.2.2.1,Yn b.2.2.2.2.2.2.1,Qem b]++[0,0,if Ji true false false false true true false false b=true then 1 else 0]))from rfl,Y9,Ut];simp only[Y2 hF h.a,Y2 hF h.c,Y2 hF h.g,Y2 hF h.k,Qbs,Qan hF,Qa9,Qcb,Qao hF,Qbl hF,fz2,Option.bind_some,Zsr,Zuc,Qbo hF h,l99 hF,mkR];generalize hz:Qp [Z6 b.2.1,0,0,0,Yn b.2.2.2.2.2.1,Yn b.2.2.2.2.2.2.1,Qem b]=z;by_cases hd:Yn b.1=0
 ·simp only[hd,decide_true,Bool.not_true,cond_false,if_true];by_cases hq:z=0
  ·simp only[hq,decide_true,Bool.not_true,cond_true,cond_false,if_true,Option.bind_some];simp only[Y9,if_true];rw[show({data:=List.toArray (Qa UInt8)}:ByteArray)=k0 from rfl];unfold Ji;simp only[l86,Bool.not_true,Bool.not_false,Bool.false_and,Bool.true_and,Bool.false_or,Bool.or_false];generalize (!Qc b.2.2.1 k0)=i0;generalize (!Qc b.2.2.2.1 k0)=i1;generalize (!Qc b.2.2.2.2.1 k0)=i2;generalize (!(b.2.2.2.2.2.2.2.1==k0&&(decide (b.2.2.2.2.2.2.2.2.1=0)&&(b.2.2.2.2.2.2.2.2.2.1==k0&&true))))=i3;generalize (decide ((0:Int)<(b.2.2.2.2.2.2.2.2.2.2.length:Int)))=i4;cases i0<;>cases i1<;>cases i2<;>cases i3<;>cases i4<;>rfl
  ·simp only[hq,decide_false,Bool.not_false,cond_true,cond_false,if_false,Option.bind_some]
 ·simp only[hd,decide_false,Bool.not_false,cond_true,if_false]
theorem Yi4{F:Nat}(hF:400≤F){b:Qz}(h:Zt b):Qjj F b=some (Z2 true false false false true true false false true b):=by unfold Qjj tw;simp only[Zo2 hF h,Option.bind_some,Kd,Za]
theorem Zu4{F:Nat}(hF:400≤F){b:Qz}(h:Zt b):Qu8 F b=some (Z2 true true false false false false false false false b):=by
 unfold Qu8;rw[show Z2 true true false false false false false false false b=Qp (Yn b.1::([Z6 b.2.1,Z6 b.2.2.1,0,0,0,0,0]++[0,0,if Ji true true false false false false false false b=true then 1 else 0]))from rfl,Y9,Ut];simp only[Y2 hF h.a,Y2 hF h.c,Y2 hF h.g,Y2 hF h.k,Qbs,Qan hF,Qa9,Qcb,Qao hF,Qbl hF,fz2,Option.bind_some,Zxg,Zy5,Qbo hF h,l99 hF,mkR];generalize hz:Qp [Z6 b.2.1,Z6 b.2.2.1,0,0,0,0,0]=z;by_cases hd:Yn b.1=0
 ·simp only[hd,decide_true,Bool.not_true,cond_false,if_true];by_cases hq:z=0
  ·simp only[hq,decide_true,Bool.not_true,cond_true,cond_false,if_true,Option.bind_some];simp only[Y9,if_true];rw[show({data:=List.toArray (Qa UInt8)}:ByteArray)=k0 from rfl];unfold Ji;simp only[l86,Bool.not_true,Bool.not_false,Bool.false_and,Bool.true_and,Bool.false_or,Bool.or_false];generalize (!Qc b.2.2.2.1 k0)=i0;generalize (!Qc b.2.2.2.2.1 k0)=i1;generalize (!decide (b.2.2.2.2.2.1=0))=i2;generalize (!decide (b.2.2.2.2.2.2.1=0))=i3;generalize (!(b.2.2.2.2.2.2.2.1==k0&&(decide (b.2.2.2.2.2.2.2.2.1=0)&&(b.2.2.2.2.2.2.2.2.2.1==k0&&true))))=i4;generalize (decide ((0:Int)<(b.2.2.2.2.2.2.2.2.2.2.length:Int)))=i5;cases i0<;>cases i1<;>cases i2<;>cases i3<;>cases i4<;>cases i5<;>rfl
  ·simp only[hq,decide_false,Bool.not_false,cond_true,cond_false,if_false,Option.bind_some]
 ·simp only[hd,decide_false,Bool.not_false,cond_true,if_false]
theorem Zt5{F:Nat}(hF:400≤F){b:Qz}(h:Zt b):Qje F b=some (Z2 true true false false false false false false false b):=by unfold Qje tw;simp only[Zu4 hF h,Option.bind_some,Kd,Za]
theorem Yko{F:Nat}(hF:400≤F){b:Qz}(h:Zt b):Qtz F b=some (Z2 true false false true false false true false false b):=by
 unfold Qtz;rw[show Z2 true false false true false false true false false b=Qp (Yn b.1::([Z6 b.2.1,0,0,Z6 b.2.2.2.2.1,0,0,0]++[Qgx b,0,if Ji true false false true false false true false b=true then 1 else 0]))from rfl,Y9,Ut];simp only[Y2 hF h.a,Y2 hF h.c,Y2 hF h.g,Y2 hF h.k,Qbs,Qan hF,Qa9,Qcb,Qao hF,Qbl hF,fz2,Option.bind_some,Zm2,Zop,Qbo hF h,l99 hF,mkR];generalize hz:Qp [Z6 b.2.1,0,0,Z6 b.2.2.2.2.1,0,0,0]=z;by_cases hd:Yn b.1=0
 ·simp only[hd,decide_true,Bool.not_true,cond_false,if_true];by_cases hq:z=0
  ·simp only[hq,decide_true,Bool.not_true,cond_true,cond_false,if_true,Option.bind_some];by_cases hm:Qgx b=0
   ·simp only[hm,Y9,decide_true,Bool.not_true,cond_true,cond_false,if_true,Option.bind_some];rw[show({data:=List.toArray (Qa UInt8)}:ByteArray)=k0 from rfl];unfold Ji;simp only[l86,Bool.not_true,Bool.not_false,Bool.false_and,Bool.true_and,Bool.false_or,Bool.or_false];generalize (!Qc b.2.2.1 k0)=i0;generalize (!Qc b.2.2.2.1 k0)=i1;generalize (!decide (b.2.2.2.2.2.1=0))=i2;generalize (!decide (b.2.2.2.2.2.2.1=0))=i3;generalize (decide ((0:Int)<(b.2.2.2.2.2.2.2.2.2.2.length:Int)))=i4;cases i0<;>cases i1<;>cases i2<;>cases i3<;>cases i4<;>rfl
   ·simp only[hm,Y9,decide_false,Bool.not_false,cond_true,cond_false,if_false,Option.bind_some]
  ·simp only[hq,decide_false,Bool.not_false,cond_true,cond_false,if_false,Option.bind_some]
 ·simp only[hd,decide_false,Bool.not_false,cond_true,if_false]
theorem Yff{F:Nat}(hF:400≤F){b:Qz}(h:Zt b):Qjd F b=some (Z2 true false false true false false true false false b):=by unfold Qjd tw;simp only[Yko hF h,Option.bind_some,Kd,Za]
theorem Yia{F:Nat}(hF:400≤F){b:Qz}(h:Zt b):Qqf F b=some (Z2 true false false true false false false false false b):=by
 unfold Qqf;rw[show Z2 true false false true false false false false false b=Qp (Yn b.1::([Z6 b.2.1,0,0,Z6 b.2.2.2.2.1,0,0,0]++[0,0,if Ji true false false true false false false false b=true then 1 else 0]))from rfl,Y9,Ut];simp only[Y2 hF h.a,Y2 hF h.c,Y2 hF h.g,Y2 hF h.k,Qbs,Qan hF,Qa9,Qcb,Qao hF,Qbl hF,fz2,Option.bind_some,Qx5,Zek,Qbo hF h,l99 hF,mkR];generalize hz:Qp [Z6 b.2.1,0,0,Z6 b.2.2.2.2.1,0,0,0]=z;by_cases hd:Yn b.1=0
 ·simp only[hd,decide_true,Bool.not_true,cond_false,if_true];by_cases hq:z=0
  ·simp only[hq,decide_true,Bool.not_true,cond_true,cond_false,if_true,Option.bind_some];simp only[Y9,if_true];rw[show({data:=List.toArray (Qa UInt8)}:ByteArray)=k0 from rfl];unfold Ji;simp only[l86,Bool.not_true,Bool.not_false,Bool.false_and,Bool.true_and,Bool.false_or,Bool.or_false];generalize (!Qc b.2.2.1 k0)=i0;generalize (!Qc b.2.2.2.1 k0)=i1;generalize (!decide (b.2.2.2.2.2.1=0))=i2;generalize (!decide (b.2.2.2.2.2.2.1=0))=i3;generalize (!(b.2.2.2.2.2.2.2.1==k0&&(decide (b.2.2.2.2.2.2.2.2.1=0)&&(b.2.2.2.2.2.2.2.2.2.1==k0&&true))))=i4;generalize (decide ((0:Int)<(b.2.2.2.2.2.2.2.2.2.2.length:Int)))=i5;cases i0<;>cases i1<;>cases i2<;>cases i3<;>cases i4<;>cases i5<;>rfl
  ·simp only[hq,decide_false,Bool.not_false,cond_true,cond_false,if_false,Option.bind_some]
 ·simp only[hd,decide_false,Bool.not_false,cond_true,if_false]
theorem Ziq{F:Nat}(hF:400≤F){b:Qz}(h:Zt b):Qi6 F b=some (Z2 true false false true false false false false false b):=by unfold Qi6 tw;simp only[Yia hF h,Option.bind_some,Kd,Za]
theorem Zl6{F:Nat}(hF:400≤F){b:Qz}(h:Zt b):Quv F b=some (Z2 true false false true false false false false false b):=by
 unfold Quv;rw[show Z2 true false false true false false false false false b=Qp (Yn b.1::([Z6 b.2.1,0,0,Z6 b.2.2.2.2.1,0,0,0]++[0,0,if Ji true false false true false false false false b=true then 1 else 0]))from rfl,Y9,Ut];simp only[Y2 hF h.a,Y2 hF h.c,Y2 hF h.g,Y2 hF h.k,Qbs,Qan hF,Qa9,Qcb,Qao hF,Qbl hF,fz2,Option.bind_some,Qx5,Zek,Qbo hF h,l99 hF,mkR];generalize hz:Qp [Z6 b.2.1,0,0,Z6 b.2.2.2.2.1,0,0,0]=z;by_cases hd:Yn b.1=0
 ·simp only[hd,decide_true,Bool.not_true,cond_false,if_true];by_cases hq:z=0
  ·simp only[hq,decide_true,Bool.not_true,cond_true,cond_false,if_true,Option.bind_some];simp only[Y9,if_true];rw[show({data:=List.toArray (Qa UInt8)}:ByteArray)=k0 from rfl];unfold Ji;simp only[l86,Bool.not_true,Bool.not_false,Bool.false_and,Bool.true_and,Bool.false_or,Bool.or_false];generalize (!Qc b.2.2.1 k0)=i0;generalize (!Qc b.2.2.2.1 k0)=i1;generalize (!decide (b.2.2.2.2.2.1=0))=i2;generalize (!decide (b.2.2.2.2.2.2.1=0))=i3;generalize (!(b.2.2.2.2.2.2.2.1==k0&&(decide (b.2.2.2.2.2.2.2.2.1=0)&&(b.2.2.2.2.2.2.2.2.2.1==k0&&true))))=i4;generalize (decide ((0:Int)<(b.2.2.2.2.2.2.2.2.2.2.length:Int)))=i5;cases i0<;>cases i1<;>cases i2<;>cases i3<;>cases i4<;>cases i5<;>rfl
  ·simp only[hq,decide_false,Bool.not_false,cond_true,cond_false,if_false,Option.bind_some]
 ·simp only[hd,decide_false,Bool.not_false,cond_true,if_false]
theorem Zpc{F:Nat}(hF:400≤F){b:Qz}(h:Zt b):Qk1 F b=some (Z2 true false false true false false false false false b):=by unfold Qk1 tw;simp only[Zl6 hF h,Option.bind_some,Kd,Za]
theorem Zuz{F:Nat}(hF:400≤F){b:Qz}(h:Zt b):Qrp F b=some (Z2 false true false true false false false true false b):=by
 unfold Qrp;rw[show Z2 false true false true false false false true false b=Qp (Yn b.1::([0,Z6 b.2.2.1,0,Z6 b.2.2.2.2.1,0,0,0]++[0,Qb1 b.2.2.2.2.2.2.2.2.2.2,if Ji false true false true false false false true b=true then 1 else 0]))from rfl,Y9,Ut];simp only[Y2 hF h.a,Y2 hF h.c,Y2 hF h.g,Y2 hF h.k,Qbs,Qan hF,Qa9,Qcb,Qao hF,Qbl hF,fz2,Option.bind_some,Yh1,Yj5,Qbo hF h,l99 hF,mkR];generalize hz:Qp [0,Z6 b.2.2.1,0,Z6 b.2.2.2.2.1,0,0,0]=z;by_cases hd:Yn b.1=0
 ·simp only[hd,decide_true,Bool.not_true,cond_false,if_true];by_cases hq:z=0
  ·simp only[hq,decide_true,Bool.not_true,cond_true,cond_false,if_true,Option.bind_some];simp only[l86,Qao hF,Zmd,Option.bind_some];by_cases hm:Qb1 b.2.2.2.2.2.2.2.2.2.2=0
   ·simp only[hm,Y9,decide_true,Bool.not_true,cond_true,cond_false,if_true,Option.bind_some];rw[show({data:=List.toArray (Qa UInt8)}:ByteArray)=k0 from rfl];unfold Ji;simp only[l86,Bool.not_true,Bool.not_false,Bool.false_and,Bool.true_and,Bool.false_or,Bool.or_false];generalize (!Qc b.2.1 k0)=i0;generalize (!Qc b.2.2.2.1 k0)=i1;generalize (!decide (b.2.2.2.2.2.1=0))=i2;generalize (!decide (b.2.2.2.2.2.2.1=0))=i3;generalize (!(b.2.2.2.2.2.2.2.1==k0&&(decide (b.2.2.2.2.2.2.2.2.1=0)&&(b.2.2.2.2.2.2.2.2.2.1==k0&&true))))=i4;cases i0<;>cases i1<;>cases i2<;>cases i3<;>cases i4<;>rfl
   ·simp only[hm,Y9,decide_false,Bool.not_false,cond_true,cond_false,if_false,Option.bind_some,if_true]
  ·simp only[hq,decide_false,Bool.not_false,cond_true,cond_false,if_false,Option.bind_some]
 ·simp only[hd,decide_false,Bool.not_false,cond_true,if_false]
theorem Zp4{F:Nat}(hF:400≤F){b:Qz}(h:Zt b):Qkj F b=some (Z2 false true false true false false false true false b):=by unfold Qkj tw;simp only[Zuz hF h,Option.bind_some,Kd,Za]
def Xi(a:Ys):Int:=
 if Qc a.2.1 Ym=true then Z2 false true false false false false false false false (a.1,a.2.2)
 else if Qc a.2.1 Yl=true then Z2 true true true false true false false false false (a.1,a.2.2)
 else if Qc a.2.1 Yy=true then Z2 true false false false true true false false true (a.1,a.2.2)
 else if Qc a.2.1 Yg=true then Z2 true true false false false false false false false (a.1,a.2.2)
 else if Qc a.2.1 Yx=true then Z2 true false false true false false true false false (a.1,a.2.2)
 else if Qc a.2.1 Yu=true then Z2 true false false true false false false false false (a.1,a.2.2)
 else if Qc a.2.1 Yt=true then Z2 true false false true false false false false false (a.1,a.2.2)
 else if Qc a.2.1 Yp=true then Z2 false true false true false false false true false (a.1,a.2.2)
 else 13
theorem Zxx{F:Nat}(hF:400≤F)(a:Ys)(h:Qc a.2.1 Ym=false∧Qc a.2.1 Yl=false∧Qc a.2.1 Yy=false∧Qc a.2.1 Yg=false∧Qc a.2.1 Yx=false∧Qc a.2.1 Yu=false∧Qc a.2.1 Yt=false∧Qc a.2.1 Yp=false):Qjm F a=some 13:=by obtain⟨h0,h1,h2,h3,h4,h5,h6,h7⟩:=h;have h0:Qc a.2.1 {data:=List.toArray ((99:UInt8)::(108:UInt8)::(117:UInt8)::(98:UInt8)::Qa UInt8)}=false:=h0;have h1:Qc a.2.1 {data:=List.toArray ((97:UInt8)::(116:UInt8)::(104:UInt8)::(108:UInt8)::(101:UInt8)::(116:UInt8)::(101:UInt8)::Qa UInt8)}=false:=h1;have h2:Qc a.2.1 {data:=List.toArray ((108:UInt8)::(105:UInt8)::(99:UInt8)::(101:UInt8)::(110:UInt8)::(99:UInt8)::(101:UInt8)::Qa UInt8)}=false:=h2;have h3:Qc a.2.1 {data:=List.toArray ((116:UInt8)::(114:UInt8)::(97:UInt8)::(110:UInt8)::(115:UInt8)::(102:UInt8)::(101:UInt8)::(114:UInt8)::Qa UInt8)}=false:=h3;have h4:Qc a.2.1 {data:=List.toArray ((101:UInt8)::(110:UInt8)::(116:UInt8)::(101:UInt8)::(114:UInt8)::Qa UInt8)}=false:=h4;have h5:Qc a.2.1 {data:=List.toArray ((119:UInt8)::(105:UInt8)::(116:UInt8)::(104:UInt8)::(100:UInt8)::(114:UInt8)::(97:UInt8)::(119:UInt8)::Qa UInt8)}=false:=h5;have h6:Qc a.2.1 {data:=List.toArray ((99:UInt8)::(104:UInt8)::(101:UInt8)::(99:UInt8)::(107:UInt8)::Qa UInt8)}=false:=h6;have h7:Qc a.2.1 {data:=List.toArray ((116:UInt8)::(101:UInt8)::(97:UInt8)::(109:UInt8)::Qa UInt8)}=false:=h7;unfold Qjm tw;simp only[h0,h1,h2,h3,h4,h5,h6,h7,Qan hF,Bool.not_false,Za,Option.bind_some,Kd]
theorem l23{F:Nat}(hF:400≤F){a:Ys}(h:Zt (a.1,a.2.2)):c23 F a=some (Xi a):=by
 unfold c23 Xi;rw[show Qj9=Ym from rfl];by_cases h0:Qc a.2.1 Ym=true
 ·rw[h0,cond_true,if_pos rfl,Yjb hF h]
 ·rw[Bool.eq_false_iff.2 h0,cond_false,if_neg (by decide)];rw[show Qiq=Yl from rfl];by_cases h1:Qc a.2.1 Yl=true
  ·rw[h1,cond_true,if_pos rfl,Yar hF h]
  ·rw[Bool.eq_false_iff.2 h1,cond_false,if_neg (by decide)];rw[show Qkh=Yy from rfl];by_cases h2:Qc a.2.1 Yy=true
   ·rw[h2,cond_true,if_pos rfl,Yi4 hF h]
   ·rw[Bool.eq_false_iff.2 h2,cond_false,if_neg (by decide)];rw[show Qke=Yg from rfl];by_cases h3:Qc a.2.1 Yg=true
    ·rw[h3,cond_true,if_pos rfl,Zt5 hF h]
    ·rw[Bool.eq_false_iff.2 h3,cond_false,if_neg (by decide)];rw[show Qka=Yx from rfl];by_cases h4:Qc a.2.1 Yx=true
     ·rw[h4,cond_true,if_pos rfl,Yff hF h]
     ·rw[Bool.eq_false_iff.2 h4,cond_false,if_neg (by decide)];rw[show Qju=Yu from rfl];by_cases h5:Qc a.2.1 Yu=true
      ·rw[h5,cond_true,if_pos rfl,Ziq hF h]
      ·rw[Bool.eq_false_iff.2 h5,cond_false,if_neg (by decide)];rw[show Qkq=Yt from rfl];by_cases h6:Qc a.2.1 Yt=true
       ·rw[h6,cond_true,if_pos rfl,Zpc hF h]
       ·rw[Bool.eq_false_iff.2 h6,cond_false,if_neg (by decide)];rw[show Qis=Yp from rfl];by_cases h7:Qc a.2.1 Yp=true
        ·rw[h7,cond_true,if_pos rfl,Zp4 hF h]
        ·rw[Bool.eq_false_iff.2 h7,cond_false,if_neg (by decide)];exact Zxx hF a ⟨Bool.eq_false_iff.2 h0,Bool.eq_false_iff.2 h1,Bool.eq_false_iff.2 h2,Bool.eq_false_iff.2 h3,Bool.eq_false_iff.2 h4,Bool.eq_false_iff.2 h5,Bool.eq_false_iff.2 h6,Bool.eq_false_iff.2 h7⟩
theorem Zry{F:Nat}(hF:400≤F){s:ByteArray}(h:Qc s Ym=false∧Qc s Yl=false∧Qc s Yy=false∧Qc s Yg=false∧Qc s Yx=false∧Qc s Yu=false∧Qc s Yt=false∧Qc s Yp=false):V7 F s=some {data:=List.toArray (Qa UInt8)}:=by
 obtain⟨G,rfl⟩:∃G,F=G+9:=⟨F-9,by omega⟩;obtain⟨h0,h1,h2,h3,h4,h5,h6,h7⟩:=h;have h0:Qc Ym s=false:=by rw[Qau];exact h0
 have h1:Qc Yl s=false:=by rw[Qau];exact h1
 have h2:Qc Yy s=false:=by rw[Qau];exact h2
 have h3:Qc Yg s=false:=by rw[Qau];exact h3
 have h4:Qc Yx s=false:=by rw[Qau];exact h4
 have h5:Qc Yu s=false:=by rw[Qau];exact h5
 have h6:Qc Yt s=false:=by rw[Qau];exact h6
 have h7:Qc Yp s=false:=by rw[Qau];exact h7
 refine Xr [Ym,Yl,Yy,Yg,Yx,Yu,Yt,Yp] (fun(_:Unit) i=>(i:Int)) (fun x (_:Unit)=>.inl ()) (fun _=>(.inr ():ByteArray ⊕ Unit)) (fun _ _=>True) () (by show 8<G+9;omega) rfl trivial ?_ ?_ ?_
 ·intro i x _ hi hx _;refine⟨?_,fun _ _=>trivial⟩;have hi:i<8:=hi;have hk:Qc ([Ym,Yl,Yy,Yg,Yx,Yu,Yt,Yp].getD (0+i) ByteArray.empty) s=false:=by
   match i,hi with
   |0,_=>exact h0
   |1,_=>exact h1
   |2,_=>exact h2
   |3,_=>exact h3
   |4,_=>exact h4
   |5,_=>exact h5
   |6,_=>exact h6
   |7,_=>exact h7
  have hk:Qc (([Ym,Yl,Yy,Yg,Yx,Yu,Yt,Yp]:List ByteArray).getD (0+(i:Int).toNat) ByteArray.empty) s=false:=hk;simp(disch:=omega)only[Z7,Zc,Z0];exact(congrArg (fun b=>bif b then _ else _) hk)
 ·intro _ _;rfl
 ·rfl
theorem l24{F:Nat}(hF:400≤F){a:Ys}(h:Zt (a.1,a.2.2)):c24 F a=some (Xi a):=by
 unfold Xi;by_cases h0:Qc a.2.1 Ym=true
 ·rw[if_pos h0];have e:=Zsw hF (a.1,a.2.2) h.n;rw[←Xj.1 h0]at e;exact e
 ·rw[if_neg h0];by_cases h1:Qc a.2.1 Yl=true
  ·rw[if_pos h1];have e:=Ybk hF (a.1,a.2.2) h.n;rw[←Xj.1 h1]at e;exact e
  ·rw[if_neg h1];by_cases h2:Qc a.2.1 Yy=true
   ·rw[if_pos h2];have e:=Zo7 hF (a.1,a.2.2) h.n;rw[←Xj.1 h2]at e;exact e
   ·rw[if_neg h2];by_cases h3:Qc a.2.1 Yg=true
    ·rw[if_pos h3];have e:=Zni hF (a.1,a.2.2) h.n;rw[←Xj.1 h3]at e;exact e
    ·rw[if_neg h3];by_cases h4:Qc a.2.1 Yx=true
     ·rw[if_pos h4];have e:=Zh6 hF (a.1,a.2.2) h.n;rw[←Xj.1 h4]at e;exact e
     ·rw[if_neg h4];by_cases h5:Qc a.2.1 Yu=true
      ·rw[if_pos h5];have e:=Zm0 hF (a.1,a.2.2) h.n;rw[←Xj.1 h5]at e;exact e
      ·rw[if_neg h5];by_cases h6:Qc a.2.1 Yt=true
       ·rw[if_pos h6];have e:=Zqv hF (a.1,a.2.2) h.n;rw[←Xj.1 h6]at e;exact e
       ·rw[if_neg h6];by_cases h7:Qc a.2.1 Yp=true
        ·rw[if_pos h7];have e:=Zt6 hF (a.1,a.2.2) h.n;rw[←Xj.1 h7]at e;exact e
        ·rw[if_neg h7];unfold c24;rw[Zry hF ⟨Bool.eq_false_iff.2 h0,Bool.eq_false_iff.2 h1,Bool.eq_false_iff.2 h2,Bool.eq_false_iff.2 h3,Bool.eq_false_iff.2 h4,Bool.eq_false_iff.2 h5,Bool.eq_false_iff.2 h6,Bool.eq_false_iff.2 h7⟩];rfl
end Go.Proofs.Tryz
