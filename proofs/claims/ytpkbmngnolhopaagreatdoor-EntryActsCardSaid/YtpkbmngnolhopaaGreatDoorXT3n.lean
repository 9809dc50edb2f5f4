/- Plain law: CheckAct of the program, by kinds. -/
import Derived.Test.YtpkbmngnolhopaaGreatDoorXT3i
import Derived.Test.YtpkbmngnolhopaaGreatDoorXTeK23b
set_option maxRecDepth 100000
set_option linter.unusedVariables false
set_option linter.unusedSimpArgs false
namespace Go.Proofs.Tryz
open Go Go.Sx
structure Yc (b:Q1):Prop where
 a:b.2.1.size≤60
 c:b.2.2.1.size≤60
 g:b.2.2.2.1.size≤60
 k:b.2.2.2.2.1.size≤60
 n:b.2.2.2.2.2.2.2.2.2.2.length≤10
 m:∀x∈b.2.2.2.2.2.2.2.2.2.2,x.size≤60
theorem Y7{F:Nat}(hF:400≤F){s:ByteArray}(hs:s.size≤60):c98 F s=some (Xl s):=l98 hF (by omega)
theorem Qbv{F:Nat}(hF:400≤F)(d:Int):Z6 F (d::Qa Int)=some (Yw d):=by rw[l85 (by simp[Qa];omega) (by simp[Qa])];simp[Qa,Yw]
theorem Qbk{F:Nat}(hF:400≤F)(a b:Int):Q0 F (a::b::Qa Int)=some (Qj [a,b]):=X6 hF (by simp[Qa])
theorem Qdk{F:Nat}(hF:400≤F)(a b c d e f g:Int):Q0 F (a::b::c::d::e::f::g::Qa Int)=some (Qj [a,b,c,d,e,f,g]):=X6 hF (by simp[Qa])
theorem Qdx(F:Nat)(s:ByteArray):Qo F (!Xl s,8)=some (Z9 s):=by rw[l86];unfold Z9;cases Xl s<;>rfl
theorem Qdq(F:Nat)(d:Int):Qo F (!decide (Yw d=0),3)=some (Yw d):=by rw[l86];unfold Yw;cases Yl d<;>rfl
theorem Qdy(F:Nat)(b:Q1):Qo F (decide (b.2.2.2.2.2.2.1<b.2.2.2.2.2.1),11)=some (Qe7 b):=by rw[l86];unfold Qe7;by_cases h:b.2.2.2.2.2.2.1<b.2.2.2.2.2.1<;>simp[h]
theorem mkR(b:Q1):Wc b.2.2.2.2.2.2.2.1 b.2.2.2.2.2.2.2.2.1 b.2.2.2.2.2.2.2.2.2.1=Qha b:=rfl
theorem fz2(d:Int):Qj [0,d]=d:=by show(if(0:Int)=0 then(if d=0 then 0 else d)else 0)=d;by_cases h:d=0<;>simp[h]
theorem Qdg{F:Nat}(hF:400≤F){b:Q1}(h:Yc b):Uv F b.2.2.2.2.2.2.2.2.2.2=some (Qj (b.2.2.2.2.2.2.2.2.2.2.map Z9)):=by
 have h1:=h.n;unfold Uv;refine Qke b.2.2.2.2.2.2.2.2.2.2 Z9 (by omega) ?_ ?_ ?_
 ·intro i x hi hx;have hs:=h.m x (List.mem_of_getElem? hx);have e:Qpc F ((i:Int),x)=some (Z9 x):=by unfold Qpc;simp only[l92 hF (show x.size≤300 by omega),Option.bind_some];rfl
  simp(disch:=omega)only[Zw,Zd,Int.toNat_natCast,getD_some hx,Zv,e,Option.bind_some,Nat.zero_add];by_cases h0:Z9 x=0<;>simp[h0]
 ·simp(disch:=omega)only[Zz]
 ·by_cases h2:Qj (b.2.2.2.2.2.2.2.2.2.2.map Z9)=0<;>simp[h2]
theorem Ztk(l:List ByteArray):Qj [if decide ((8:Int)<(l.length:Int))=true then 5 else 0,Qj (l.map Z9)]=Qdp l:=by
 unfold Qdp;by_cases h:8<l.length
 ·have h':(8:Int)<l.length:=by omega
  simp[h,h',Qj]
 ·have h':¬(8:Int)<l.length:=by omega
  simp only[h,h',decide_false,if_false,Bool.false_eq_true];exact fz2 _
theorem Zl8:(!Decidable.decide (Go.IntKind.wrap Go.IntKind.i64 ((BitVec.toNat (BitVec.ofInt (64:Nat) (2:Int)&&& BitVec.ofInt (64:Nat) (64:Int)):Nat):Int)=(0:Int)))=false:=by rfl
theorem Yck:(!Decidable.decide (Go.IntKind.wrap Go.IntKind.i64 ((BitVec.toNat (BitVec.ofInt (64:Nat) (2:Int)&&& BitVec.ofInt (64:Nat) (128:Int)):Nat):Int)=(0:Int)))=false:=by rfl
theorem Zli:(!Decidable.decide (Go.IntKind.wrap Go.IntKind.i64 ((BitVec.toNat (BitVec.ofInt (64:Nat) (3:Int)&&& BitVec.ofInt (64:Nat) (64:Int)):Nat):Int)=(0:Int)))=false:=by rfl
theorem Zt7:(!Decidable.decide (Go.IntKind.wrap Go.IntKind.i64 ((BitVec.toNat (BitVec.ofInt (64:Nat) (3:Int)&&& BitVec.ofInt (64:Nat) (128:Int)):Nat):Int)=(0:Int)))=false:=by rfl
theorem Zix:(!Decidable.decide (Go.IntKind.wrap Go.IntKind.i64 ((BitVec.toNat (BitVec.ofInt (64:Nat) (9:Int)&&& BitVec.ofInt (64:Nat) (64:Int)):Nat):Int)=(0:Int)))=false:=by rfl
theorem Zab:(!Decidable.decide (Go.IntKind.wrap Go.IntKind.i64 ((BitVec.toNat (BitVec.ofInt (64:Nat) (9:Int)&&& BitVec.ofInt (64:Nat) (128:Int)):Nat):Int)=(0:Int)))=false:=by rfl
theorem Ylo:(!Decidable.decide (Go.IntKind.wrap Go.IntKind.i64 ((BitVec.toNat (BitVec.ofInt (64:Nat) (23:Int)&&& BitVec.ofInt (64:Nat) (64:Int)):Nat):Int)=(0:Int)))=false:=by rfl
theorem Ycl:(!Decidable.decide (Go.IntKind.wrap Go.IntKind.i64 ((BitVec.toNat (BitVec.ofInt (64:Nat) (23:Int)&&& BitVec.ofInt (64:Nat) (128:Int)):Nat):Int)=(0:Int)))=false:=by rfl
theorem Zul:(!Decidable.decide (Go.IntKind.wrap Go.IntKind.i64 ((BitVec.toNat (BitVec.ofInt (64:Nat) (49:Int)&&& BitVec.ofInt (64:Nat) (64:Int)):Nat):Int)=(0:Int)))=false:=by rfl
theorem Zk7:(!Decidable.decide (Go.IntKind.wrap Go.IntKind.i64 ((BitVec.toNat (BitVec.ofInt (64:Nat) (49:Int)&&& BitVec.ofInt (64:Nat) (128:Int)):Nat):Int)=(0:Int)))=false:=by rfl
theorem Ymw:(!Decidable.decide (Go.IntKind.wrap Go.IntKind.i64 ((BitVec.toNat (BitVec.ofInt (64:Nat) (73:Int)&&& BitVec.ofInt (64:Nat) (64:Int)):Nat):Int)=(0:Int)))=true:=by rfl
theorem Ycp:(!Decidable.decide (Go.IntKind.wrap Go.IntKind.i64 ((BitVec.toNat (BitVec.ofInt (64:Nat) (73:Int)&&& BitVec.ofInt (64:Nat) (128:Int)):Nat):Int)=(0:Int)))=false:=by rfl
theorem Zo0:(!Decidable.decide (Go.IntKind.wrap Go.IntKind.i64 ((BitVec.toNat (BitVec.ofInt (64:Nat) (138:Int)&&& BitVec.ofInt (64:Nat) (64:Int)):Nat):Int)=(0:Int)))=false:=by rfl
theorem Zn9:(!Decidable.decide (Go.IntKind.wrap Go.IntKind.i64 ((BitVec.toNat (BitVec.ofInt (64:Nat) (138:Int)&&& BitVec.ofInt (64:Nat) (128:Int)):Nat):Int)=(0:Int)))=true:=by rfl
theorem Zqh{F:Nat}(hF:400≤F){b:Q1}(h:Yc b):Qq0 F b=some (Z7 false true false false false false false false false b):=by
 unfold Qq0;rw[show Z7 false true false false false false false false false b=Qj (Yw b.1::([0,Z9 b.2.2.1,0,0,0,0,0]++[0,0,if Jr false true false false false false false false b=true then 1 else 0]))from rfl,Xd,Qay];simp only[Y7 hF h.a,Y7 hF h.c,Y7 hF h.g,Y7 hF h.k,Qdx,Qbv hF,Qdq,Qdy,Qbk hF,Qdk hF,fz2,Option.bind_some,Zl8,Yck,Qdg hF h,l99 hF,mkR];generalize hz:Qj [0,Z9 b.2.2.1,0,0,0,0,0]=z;by_cases hd:Yw b.1=0
 ·simp only[hd,decide_true,Bool.not_true,cond_false,if_true];by_cases hq:z=0
  ·simp only[hq,decide_true,Bool.not_true,cond_true,cond_false,if_true,Option.bind_some];simp only[Xd,if_true];rw[show({data:=List.toArray (Qa UInt8)}:ByteArray)=k0 from rfl];unfold Jr;simp only[l86,Bool.not_true,Bool.not_false,Bool.false_and,Bool.true_and,Bool.false_or,Bool.or_false];generalize (!Qc b.2.1 k0)=i0;generalize (!Qc b.2.2.2.1 k0)=i1;generalize (!Qc b.2.2.2.2.1 k0)=i2;generalize (!decide (b.2.2.2.2.2.1=0))=i3;generalize (!decide (b.2.2.2.2.2.2.1=0))=i4;generalize (!(b.2.2.2.2.2.2.2.1==k0&&(decide (b.2.2.2.2.2.2.2.2.1=0)&&(b.2.2.2.2.2.2.2.2.2.1==k0&&true))))=i5;generalize (decide ((0:Int)<(b.2.2.2.2.2.2.2.2.2.2.length:Int)))=i6;cases i0<;>cases i1<;>cases i2<;>cases i3<;>cases i4<;>cases i5<;>cases i6<;>rfl
  ·simp only[hq,decide_false,Bool.not_false,cond_true,cond_false,if_false,Option.bind_some]
 ·simp only[hd,decide_false,Bool.not_false,cond_true,if_false]
theorem Zlf{F:Nat}(hF:400≤F){b:Q1}(h:Yc b):Qkq F b=some (Z7 false true false false false false false false false b):=by unfold Qkq tw;simp only[Zqh hF h,Option.bind_some,Vf,Zh]
theorem Yfj{F:Nat}(hF:400≤F){b:Q1}(h:Yc b):Qwz F b=some (Z7 true true true false true false false false false b):=by
 unfold Qwz;rw[show Z7 true true true false true false false false false b=Qj (Yw b.1::([Z9 b.2.1,Z9 b.2.2.1,Z9 b.2.2.2.1,0,Yw b.2.2.2.2.2.1,0,0]++[0,0,if Jr true true true false true false false false b=true then 1 else 0]))from rfl,Xd,Qay];simp only[Y7 hF h.a,Y7 hF h.c,Y7 hF h.g,Y7 hF h.k,Qdx,Qbv hF,Qdq,Qdy,Qbk hF,Qdk hF,fz2,Option.bind_some,Ylo,Ycl,Qdg hF h,l99 hF,mkR];generalize hz:Qj [Z9 b.2.1,Z9 b.2.2.1,Z9 b.2.2.2.1,0,Yw b.2.2.2.2.2.1,0,0]=z;by_cases hd:Yw b.1=0
 ·simp only[hd,decide_true,Bool.not_true,cond_false,if_true];by_cases hq:z=0
  ·simp only[hq,decide_true,Bool.not_true,cond_true,cond_false,if_true,Option.bind_some];simp only[Xd,if_true];rw[show({data:=List.toArray (Qa UInt8)}:ByteArray)=k0 from rfl];unfold Jr;simp only[l86,Bool.not_true,Bool.not_false,Bool.false_and,Bool.true_and,Bool.false_or,Bool.or_false];generalize (!Qc b.2.2.2.2.1 k0)=i0;generalize (!decide (b.2.2.2.2.2.2.1=0))=i1;generalize (!(b.2.2.2.2.2.2.2.1==k0&&(decide (b.2.2.2.2.2.2.2.2.1=0)&&(b.2.2.2.2.2.2.2.2.2.1==k0&&true))))=i2;generalize (decide ((0:Int)<(b.2.2.2.2.2.2.2.2.2.2.length:Int)))=i3;cases i0<;>cases i1<;>cases i2<;>cases i3<;>rfl
  ·simp only[hq,decide_false,Bool.not_false,cond_true,cond_false,if_false,Option.bind_some]
 ·simp only[hd,decide_false,Bool.not_false,cond_true,if_false]
theorem Yiz{F:Nat}(hF:400≤F){b:Q1}(h:Yc b):Qko F b=some (Z7 true true true false true false false false false b):=by unfold Qko tw;simp only[Yfj hF h,Option.bind_some,Vf,Zh]
theorem Zrg{F:Nat}(hF:400≤F){b:Q1}(h:Yc b):Qtg F b=some (Z7 true false false false true true false false true b):=by
 unfold Qtg;rw[show Z7 true false false false true true false false true b=Qj (Yw b.1::([Z9 b.2.1,0,0,0,Yw b.2.2.2.2.2.1,Yw b.2.2.2.2.2.2.1,Qe7 b]++[0,0,if Jr true false false false true true false false b=true then 1 else 0]))from rfl,Xd,Qay];simp only[Y7 hF h.a,Y7 hF h.c,Y7 hF h.g,Y7 hF h.k,Qdx,Qbv hF,Qdq,Qdy,Qbk hF,Qdk hF,fz2,Option.bind_some,Zul,Zk7,Qdg hF h,l99 hF,mkR];generalize hz:Qj [Z9 b.2.1,0,0,0,Yw b.2.2.2.2.2.1,Yw b.2.2.2.2.2.2.1,Qe7 b]=z;by_cases hd:Yw b.1=0
 ·simp only[hd,decide_true,Bool.not_true,cond_false,if_true];by_cases hq:z=0
  ·simp only[hq,decide_true,Bool.not_true,cond_true,cond_false,if_true,Option.bind_some];simp only[Xd,if_true];rw[show({data:=List.toArray (Qa UInt8)}:ByteArray)=k0 from rfl];unfold Jr;simp only[l86,Bool.not_true,Bool.not_false,Bool.false_and,Bool.true_and,Bool.false_or,Bool.or_false];generalize (!Qc b.2.2.1 k0)=i0;generalize (!Qc b.2.2.2.1 k0)=i1;generalize (!Qc b.2.2.2.2.1 k0)=i2;generalize (!(b.2.2.2.2.2.2.2.1==k0&&(decide (b.2.2.2.2.2.2.2.2.1=0)&&(b.2.2.2.2.2.2.2.2.2.1==k0&&true))))=i3;generalize (decide ((0:Int)<(b.2.2.2.2.2.2.2.2.2.2.length:Int)))=i4;cases i0<;>cases i1<;>cases i2<;>cases i3<;>cases i4<;>rfl
  ·simp only[hq,decide_false,Bool.not_false,cond_true,cond_false,if_false,Option.bind_some]
 ·simp only[hd,decide_false,Bool.not_false,cond_true,if_false]
theorem Yc9{F:Nat}(hF:400≤F){b:Q1}(h:Yc b):Qk1 F b=some (Z7 true false false false true true false false true b):=by unfold Qk1 tw;simp only[Zrg hF h,Option.bind_some,Vf,Zh]
theorem Zu0{F:Nat}(hF:400≤F){b:Q1}(h:Yc b):Qtd F b=some (Z7 true true false false false false false false false b):=by
 unfold Qtd;rw[show Z7 true true false false false false false false false b=Qj (Yw b.1::([Z9 b.2.1,Z9 b.2.2.1,0,0,0,0,0]++[0,0,if Jr true true false false false false false false b=true then 1 else 0]))from rfl,Xd,Qay];simp only[Y7 hF h.a,Y7 hF h.c,Y7 hF h.g,Y7 hF h.k,Qdx,Qbv hF,Qdq,Qdy,Qbk hF,Qdk hF,fz2,Option.bind_some,Zli,Zt7,Qdg hF h,l99 hF,mkR];generalize hz:Qj [Z9 b.2.1,Z9 b.2.2.1,0,0,0,0,0]=z;by_cases hd:Yw b.1=0
 ·simp only[hd,decide_true,Bool.not_true,cond_false,if_true];by_cases hq:z=0
  ·simp only[hq,decide_true,Bool.not_true,cond_true,cond_false,if_true,Option.bind_some];simp only[Xd,if_true];rw[show({data:=List.toArray (Qa UInt8)}:ByteArray)=k0 from rfl];unfold Jr;simp only[l86,Bool.not_true,Bool.not_false,Bool.false_and,Bool.true_and,Bool.false_or,Bool.or_false];generalize (!Qc b.2.2.2.1 k0)=i0;generalize (!Qc b.2.2.2.2.1 k0)=i1;generalize (!decide (b.2.2.2.2.2.1=0))=i2;generalize (!decide (b.2.2.2.2.2.2.1=0))=i3;generalize (!(b.2.2.2.2.2.2.2.1==k0&&(decide (b.2.2.2.2.2.2.2.2.1=0)&&(b.2.2.2.2.2.2.2.2.2.1==k0&&true))))=i4;generalize (decide ((0:Int)<(b.2.2.2.2.2.2.2.2.2.2.length:Int)))=i5;cases i0<;>cases i1<;>cases i2<;>cases i3<;>cases i4<;>cases i5<;>rfl
  ·simp only[hq,decide_false,Bool.not_false,cond_true,cond_false,if_false,Option.bind_some]
 ·simp only[hd,decide_false,Bool.not_false,cond_true,if_false]
theorem Ym8{F:Nat}(hF:400≤F){b:Q1}(h:Yc b):Qmj F b=some (Z7 true true false false false false false false false b):=by unfold Qmj tw;simp only[Zu0 hF h,Option.bind_some,Vf,Zh]
theorem Zvp{F:Nat}(hF:400≤F){b:Q1}(h:Yc b):Qwx F b=some (Z7 true false false true false false true false false b):=by
 unfold Qwx;rw[show Z7 true false false true false false true false false b=Qj (Yw b.1::([Z9 b.2.1,0,0,Z9 b.2.2.2.2.1,0,0,0]++[Qha b,0,if Jr true false false true false false true false b=true then 1 else 0]))from rfl,Xd,Qay];simp only[Y7 hF h.a,Y7 hF h.c,Y7 hF h.g,Y7 hF h.k,Qdx,Qbv hF,Qdq,Qdy,Qbk hF,Qdk hF,fz2,Option.bind_some,Ymw,Ycp,Qdg hF h,l99 hF,mkR];generalize hz:Qj [Z9 b.2.1,0,0,Z9 b.2.2.2.2.1,0,0,0]=z;by_cases hd:Yw b.1=0
 ·simp only[hd,decide_true,Bool.not_true,cond_false,if_true];by_cases hq:z=0
  ·simp only[hq,decide_true,Bool.not_true,cond_true,cond_false,if_true,Option.bind_some];by_cases hm:Qha b=0
   ·simp only[hm,Xd,decide_true,Bool.not_true,cond_true,cond_false,if_true,Option.bind_some];rw[show({data:=List.toArray (Qa UInt8)}:ByteArray)=k0 from rfl];unfold Jr;simp only[l86,Bool.not_true,Bool.not_false,Bool.false_and,Bool.true_and,Bool.false_or,Bool.or_false];generalize (!Qc b.2.2.1 k0)=i0;generalize (!Qc b.2.2.2.1 k0)=i1;generalize (!decide (b.2.2.2.2.2.1=0))=i2;generalize (!decide (b.2.2.2.2.2.2.1=0))=i3;generalize (decide ((0:Int)<(b.2.2.2.2.2.2.2.2.2.2.length:Int)))=i4;cases i0<;>cases i1<;>cases i2<;>cases i3<;>cases i4<;>rfl
   ·simp only[hm,Xd,decide_false,Bool.not_false,cond_true,cond_false,if_false,Option.bind_some]
  ·simp only[hq,decide_false,Bool.not_false,cond_true,cond_false,if_false,Option.bind_some]
 ·simp only[hd,decide_false,Bool.not_false,cond_true,if_false]
theorem Zz5{F:Nat}(hF:400≤F){b:Q1}(h:Yc b):Qlj F b=some (Z7 true false false true false false true false false b):=by unfold Qlj tw;simp only[Zvp hF h,Option.bind_some,Vf,Zh]
theorem Ymq{F:Nat}(hF:400≤F){b:Q1}(h:Yc b):Qsn F b=some (Z7 true false false true false false false false false b):=by
 unfold Qsn;rw[show Z7 true false false true false false false false false b=Qj (Yw b.1::([Z9 b.2.1,0,0,Z9 b.2.2.2.2.1,0,0,0]++[0,0,if Jr true false false true false false false false b=true then 1 else 0]))from rfl,Xd,Qay];simp only[Y7 hF h.a,Y7 hF h.c,Y7 hF h.g,Y7 hF h.k,Qdx,Qbv hF,Qdq,Qdy,Qbk hF,Qdk hF,fz2,Option.bind_some,Zix,Zab,Qdg hF h,l99 hF,mkR];generalize hz:Qj [Z9 b.2.1,0,0,Z9 b.2.2.2.2.1,0,0,0]=z;by_cases hd:Yw b.1=0
 ·simp only[hd,decide_true,Bool.not_true,cond_false,if_true];by_cases hq:z=0
  ·simp only[hq,decide_true,Bool.not_true,cond_true,cond_false,if_true,Option.bind_some];simp only[Xd,if_true];rw[show({data:=List.toArray (Qa UInt8)}:ByteArray)=k0 from rfl];unfold Jr;simp only[l86,Bool.not_true,Bool.not_false,Bool.false_and,Bool.true_and,Bool.false_or,Bool.or_false];generalize (!Qc b.2.2.1 k0)=i0;generalize (!Qc b.2.2.2.1 k0)=i1;generalize (!decide (b.2.2.2.2.2.1=0))=i2;generalize (!decide (b.2.2.2.2.2.2.1=0))=i3;generalize (!(b.2.2.2.2.2.2.2.1==k0&&(decide (b.2.2.2.2.2.2.2.2.1=0)&&(b.2.2.2.2.2.2.2.2.2.1==k0&&true))))=i4;generalize (decide ((0:Int)<(b.2.2.2.2.2.2.2.2.2.2.length:Int)))=i5;cases i0<;>cases i1<;>cases i2<;>cases i3<;>cases i4<;>cases i5<;>rfl
  ·simp only[hq,decide_false,Bool.not_false,cond_true,cond_false,if_false,Option.bind_some]
 ·simp only[hd,decide_false,Bool.not_false,cond_true,if_false]
theorem Zo7{F:Nat}(hF:400≤F){b:Q1}(h:Yc b):Qka F b=some (Z7 true false false true false false false false false b):=by unfold Qka tw;simp only[Ymq hF h,Option.bind_some,Vf,Zh]
theorem Ymk{F:Nat}(hF:400≤F){b:Q1}(h:Yc b):Qvw F b=some (Z7 true false false true false false false false false b):=by
 unfold Qvw;rw[show Z7 true false false true false false false false false b=Qj (Yw b.1::([Z9 b.2.1,0,0,Z9 b.2.2.2.2.1,0,0,0]++[0,0,if Jr true false false true false false false false b=true then 1 else 0]))from rfl,Xd,Qay];simp only[Y7 hF h.a,Y7 hF h.c,Y7 hF h.g,Y7 hF h.k,Qdx,Qbv hF,Qdq,Qdy,Qbk hF,Qdk hF,fz2,Option.bind_some,Zix,Zab,Qdg hF h,l99 hF,mkR];generalize hz:Qj [Z9 b.2.1,0,0,Z9 b.2.2.2.2.1,0,0,0]=z;by_cases hd:Yw b.1=0
 ·simp only[hd,decide_true,Bool.not_true,cond_false,if_true];by_cases hq:z=0
  ·simp only[hq,decide_true,Bool.not_true,cond_true,cond_false,if_true,Option.bind_some];simp only[Xd,if_true];rw[show({data:=List.toArray (Qa UInt8)}:ByteArray)=k0 from rfl];unfold Jr;simp only[l86,Bool.not_true,Bool.not_false,Bool.false_and,Bool.true_and,Bool.false_or,Bool.or_false];generalize (!Qc b.2.2.1 k0)=i0;generalize (!Qc b.2.2.2.1 k0)=i1;generalize (!decide (b.2.2.2.2.2.1=0))=i2;generalize (!decide (b.2.2.2.2.2.2.1=0))=i3;generalize (!(b.2.2.2.2.2.2.2.1==k0&&(decide (b.2.2.2.2.2.2.2.2.1=0)&&(b.2.2.2.2.2.2.2.2.2.1==k0&&true))))=i4;generalize (decide ((0:Int)<(b.2.2.2.2.2.2.2.2.2.2.length:Int)))=i5;cases i0<;>cases i1<;>cases i2<;>cases i3<;>cases i4<;>cases i5<;>rfl
  ·simp only[hq,decide_false,Bool.not_false,cond_true,cond_false,if_false,Option.bind_some]
 ·simp only[hd,decide_false,Bool.not_false,cond_true,if_false]
theorem Zlt{F:Nat}(hF:400≤F){b:Q1}(h:Yc b):Qjs F b=some (Z7 true false false true false false false false false b):=by unfold Qjs tw;simp only[Ymk hF h,Option.bind_some,Vf,Zh]
theorem Yii{F:Nat}(hF:400≤F){b:Q1}(h:Yc b):Qyc F b=some (Z7 false true false true false false false true false b):=by
 unfold Qyc;rw[show Z7 false true false true false false false true false b=Qj (Yw b.1::([0,Z9 b.2.2.1,0,Z9 b.2.2.2.2.1,0,0,0]++[0,Qdp b.2.2.2.2.2.2.2.2.2.2,if Jr false true false true false false false true b=true then 1 else 0]))from rfl,Xd,Qay];simp only[Y7 hF h.a,Y7 hF h.c,Y7 hF h.g,Y7 hF h.k,Qdx,Qbv hF,Qdq,Qdy,Qbk hF,Qdk hF,fz2,Option.bind_some,Zo0,Zn9,Qdg hF h,l99 hF,mkR];generalize hz:Qj [0,Z9 b.2.2.1,0,Z9 b.2.2.2.2.1,0,0,0]=z;by_cases hd:Yw b.1=0
 ·simp only[hd,decide_true,Bool.not_true,cond_false,if_true];by_cases hq:z=0
  ·simp only[hq,decide_true,Bool.not_true,cond_true,cond_false,if_true,Option.bind_some];simp only[l86,Qbk hF,Ztk,Option.bind_some];by_cases hm:Qdp b.2.2.2.2.2.2.2.2.2.2=0
   ·simp only[hm,Xd,decide_true,Bool.not_true,cond_true,cond_false,if_true,Option.bind_some];rw[show({data:=List.toArray (Qa UInt8)}:ByteArray)=k0 from rfl];unfold Jr;simp only[l86,Bool.not_true,Bool.not_false,Bool.false_and,Bool.true_and,Bool.false_or,Bool.or_false];generalize (!Qc b.2.1 k0)=i0;generalize (!Qc b.2.2.2.1 k0)=i1;generalize (!decide (b.2.2.2.2.2.1=0))=i2;generalize (!decide (b.2.2.2.2.2.2.1=0))=i3;generalize (!(b.2.2.2.2.2.2.2.1==k0&&(decide (b.2.2.2.2.2.2.2.2.1=0)&&(b.2.2.2.2.2.2.2.2.2.1==k0&&true))))=i4;cases i0<;>cases i1<;>cases i2<;>cases i3<;>cases i4<;>rfl
   ·simp only[hm,Xd,decide_false,Bool.not_false,cond_true,cond_false,if_false,Option.bind_some,if_true]
  ·simp only[hq,decide_false,Bool.not_false,cond_true,cond_false,if_false,Option.bind_some]
 ·simp only[hd,decide_false,Bool.not_false,cond_true,if_false]
theorem Zju{F:Nat}(hF:400≤F){b:Q1}(h:Yc b):Qjv F b=some (Z7 false true false true false false false true false b):=by unfold Qjv tw;simp only[Yii hF h,Option.bind_some,Vf,Zh]
def Y5(a:U2):Int:=
 if Qc a.2.1 Ym=true then Z7 false true false false false false false false false (a.1,a.2.2)
 else if Qc a.2.1 Yk=true then Z7 true true true false true false false false false (a.1,a.2.2)
 else if Qc a.2.1 Yx=true then Z7 true false false false true true false false true (a.1,a.2.2)
 else if Qc a.2.1 Yf=true then Z7 true true false false false false false false false (a.1,a.2.2)
 else if Qc a.2.1 Yy=true then Z7 true false false true false false true false false (a.1,a.2.2)
 else if Qc a.2.1 Yv=true then Z7 true false false true false false false false false (a.1,a.2.2)
 else if Qc a.2.1 Yu=true then Z7 true false false true false false false false false (a.1,a.2.2)
 else if Qc a.2.1 Yq=true then Z7 false true false true false false false true false (a.1,a.2.2)
 else 13
theorem Yjq{F:Nat}(hF:400≤F)(a:U2)(h:Qc a.2.1 Ym=false∧Qc a.2.1 Yk=false∧Qc a.2.1 Yx=false∧Qc a.2.1 Yf=false∧Qc a.2.1 Yy=false∧Qc a.2.1 Yv=false∧Qc a.2.1 Yu=false∧Qc a.2.1 Yq=false):Qjk F a=some 13:=by obtain⟨h0,h1,h2,h3,h4,h5,h6,h7⟩:=h;have h0:Qc a.2.1 {data:=List.toArray ((99:UInt8)::(108:UInt8)::(117:UInt8)::(98:UInt8)::Qa UInt8)}=false:=h0;have h1:Qc a.2.1 {data:=List.toArray ((97:UInt8)::(116:UInt8)::(104:UInt8)::(108:UInt8)::(101:UInt8)::(116:UInt8)::(101:UInt8)::Qa UInt8)}=false:=h1;have h2:Qc a.2.1 {data:=List.toArray ((108:UInt8)::(105:UInt8)::(99:UInt8)::(101:UInt8)::(110:UInt8)::(99:UInt8)::(101:UInt8)::Qa UInt8)}=false:=h2;have h3:Qc a.2.1 {data:=List.toArray ((116:UInt8)::(114:UInt8)::(97:UInt8)::(110:UInt8)::(115:UInt8)::(102:UInt8)::(101:UInt8)::(114:UInt8)::Qa UInt8)}=false:=h3;have h4:Qc a.2.1 {data:=List.toArray ((101:UInt8)::(110:UInt8)::(116:UInt8)::(101:UInt8)::(114:UInt8)::Qa UInt8)}=false:=h4;have h5:Qc a.2.1 {data:=List.toArray ((119:UInt8)::(105:UInt8)::(116:UInt8)::(104:UInt8)::(100:UInt8)::(114:UInt8)::(97:UInt8)::(119:UInt8)::Qa UInt8)}=false:=h5;have h6:Qc a.2.1 {data:=List.toArray ((99:UInt8)::(104:UInt8)::(101:UInt8)::(99:UInt8)::(107:UInt8)::Qa UInt8)}=false:=h6;have h7:Qc a.2.1 {data:=List.toArray ((116:UInt8)::(101:UInt8)::(97:UInt8)::(109:UInt8)::Qa UInt8)}=false:=h7;unfold Qjk tw;simp only[h0,h1,h2,h3,h4,h5,h6,h7,Qbv hF,Bool.not_false,Zh,Option.bind_some,Vf]
theorem l23{F:Nat}(hF:400≤F){a:U2}(h:Yc (a.1,a.2.2)):c23 F a=some (Y5 a):=by
 unfold c23 Y5;rw[show Qdm=Ym from rfl];by_cases h0:Qc a.2.1 Ym=true
 ·rw[h0,cond_true,if_pos rfl,Zlf hF h]
 ·rw[Bool.eq_false_iff.2 h0,cond_false,if_neg (by decide)];rw[show Qc2=Yk from rfl];by_cases h1:Qc a.2.1 Yk=true
  ·rw[h1,cond_true,if_pos rfl,Yiz hF h]
  ·rw[Bool.eq_false_iff.2 h1,cond_false,if_neg (by decide)];rw[show Qdn=Yx from rfl];by_cases h2:Qc a.2.1 Yx=true
   ·rw[h2,cond_true,if_pos rfl,Yc9 hF h]
   ·rw[Bool.eq_false_iff.2 h2,cond_false,if_neg (by decide)];rw[show Qcq=Yf from rfl];by_cases h3:Qc a.2.1 Yf=true
    ·rw[h3,cond_true,if_pos rfl,Ym8 hF h]
    ·rw[Bool.eq_false_iff.2 h3,cond_false,if_neg (by decide)];rw[show Qda=Yy from rfl];by_cases h4:Qc a.2.1 Yy=true
     ·rw[h4,cond_true,if_pos rfl,Zz5 hF h]
     ·rw[Bool.eq_false_iff.2 h4,cond_false,if_neg (by decide)];rw[show Qc7=Yv from rfl];by_cases h5:Qc a.2.1 Yv=true
      ·rw[h5,cond_true,if_pos rfl,Zo7 hF h]
      ·rw[Bool.eq_false_iff.2 h5,cond_false,if_neg (by decide)];rw[show Qcx=Yu from rfl];by_cases h6:Qc a.2.1 Yu=true
       ·rw[h6,cond_true,if_pos rfl,Zlt hF h]
       ·rw[Bool.eq_false_iff.2 h6,cond_false,if_neg (by decide)];rw[show Qdr=Yq from rfl];by_cases h7:Qc a.2.1 Yq=true
        ·rw[h7,cond_true,if_pos rfl,Zju hF h]
        ·rw[Bool.eq_false_iff.2 h7,cond_false,if_neg (by decide)];exact Yjq hF a ⟨Bool.eq_false_iff.2 h0,Bool.eq_false_iff.2 h1,Bool.eq_false_iff.2 h2,Bool.eq_false_iff.2 h3,Bool.eq_false_iff.2 h4,Bool.eq_false_iff.2 h5,Bool.eq_false_iff.2 h6,Bool.eq_false_iff.2 h7⟩
theorem Yme{F:Nat}(hF:400≤F){s:ByteArray}(h:Qc s Ym=false∧Qc s Yk=false∧Qc s Yx=false∧Qc s Yf=false∧Qc s Yy=false∧Qc s Yv=false∧Qc s Yu=false∧Qc s Yq=false):Kx F s=some {data:=List.toArray (Qa UInt8)}:=by
 obtain⟨G,rfl⟩:∃G,F=G+9:=⟨F-9,by omega⟩;obtain⟨h0,h1,h2,h3,h4,h5,h6,h7⟩:=h;have h0:Qc Ym s=false:=by rw[Qb0];exact h0
 have h1:Qc Yk s=false:=by rw[Qb0];exact h1
 have h2:Qc Yx s=false:=by rw[Qb0];exact h2
 have h3:Qc Yf s=false:=by rw[Qb0];exact h3
 have h4:Qc Yy s=false:=by rw[Qb0];exact h4
 have h5:Qc Yv s=false:=by rw[Qb0];exact h5
 have h6:Qc Yu s=false:=by rw[Qb0];exact h6
 have h7:Qc Yq s=false:=by rw[Qb0];exact h7
 refine Jq [Ym,Yk,Yx,Yf,Yy,Yv,Yu,Yq] (fun(_:Unit) i=>(i:Int)) (fun x (_:Unit)=>.inl ()) (fun _=>(.inr ():ByteArray ⊕ Unit)) (fun _ _=>True) () (by show 8<G+9;omega) rfl trivial ?_ ?_ ?_
 ·intro i x _ hi hx _;refine⟨?_,fun _ _=>trivial⟩;have hi:i<8:=hi;have hk:Qc ([Ym,Yk,Yx,Yf,Yy,Yv,Yu,Yq].getD (0+i) ByteArray.empty) s=false:=by
   match i,hi with
   |0,_=>exact h0
   |1,_=>exact h1
   |2,_=>exact h2
   |3,_=>exact h3
   |4,_=>exact h4
   |5,_=>exact h5
   |6,_=>exact h6
   |7,_=>exact h7
  have hk:Qc (([Ym,Yk,Yx,Yf,Yy,Yv,Yu,Yq]:List ByteArray).getD (0+(i:Int).toNat) ByteArray.empty) s=false:=hk;simp(disch:=omega)only[Zw,Zd,Zv];exact(congrArg (fun b=>bif b then _ else _) hk)
 ·intro _ _;rfl
 ·rfl
theorem l24{F:Nat}(hF:400≤F){a:U2}(h:Yc (a.1,a.2.2)):c24 F a=some (Y5 a):=by
 unfold Y5;by_cases h0:Qc a.2.1 Ym=true
 ·rw[if_pos h0];have e:=Zrw hF (a.1,a.2.2) h.n;rw[←Xw.1 h0]at e;exact e
 ·rw[if_neg h0];by_cases h1:Qc a.2.1 Yk=true
  ·rw[if_pos h1];have e:=Yh3 hF (a.1,a.2.2) h.n;rw[←Xw.1 h1]at e;exact e
  ·rw[if_neg h1];by_cases h2:Qc a.2.1 Yx=true
   ·rw[if_pos h2];have e:=Yhh hF (a.1,a.2.2) h.n;rw[←Xw.1 h2]at e;exact e
   ·rw[if_neg h2];by_cases h3:Qc a.2.1 Yf=true
    ·rw[if_pos h3];have e:=Zx1 hF (a.1,a.2.2) h.n;rw[←Xw.1 h3]at e;exact e
    ·rw[if_neg h3];by_cases h4:Qc a.2.1 Yy=true
     ·rw[if_pos h4];have e:=Zt8 hF (a.1,a.2.2) h.n;rw[←Xw.1 h4]at e;exact e
     ·rw[if_neg h4];by_cases h5:Qc a.2.1 Yv=true
      ·rw[if_pos h5];have e:=Yat hF (a.1,a.2.2) h.n;rw[←Xw.1 h5]at e;exact e
      ·rw[if_neg h5];by_cases h6:Qc a.2.1 Yu=true
       ·rw[if_pos h6];have e:=Ycb hF (a.1,a.2.2) h.n;rw[←Xw.1 h6]at e;exact e
       ·rw[if_neg h6];by_cases h7:Qc a.2.1 Yq=true
        ·rw[if_pos h7];have e:=Zuw hF (a.1,a.2.2) h.n;rw[←Xw.1 h7]at e;exact e
        ·rw[if_neg h7];unfold c24;rw[Yme hF ⟨Bool.eq_false_iff.2 h0,Bool.eq_false_iff.2 h1,Bool.eq_false_iff.2 h2,Bool.eq_false_iff.2 h3,Bool.eq_false_iff.2 h4,Bool.eq_false_iff.2 h5,Bool.eq_false_iff.2 h6,Bool.eq_false_iff.2 h7⟩];rfl
end Go.Proofs.Tryz
