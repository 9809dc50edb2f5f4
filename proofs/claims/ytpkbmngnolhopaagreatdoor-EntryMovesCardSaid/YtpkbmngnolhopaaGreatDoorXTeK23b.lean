/- Functions of the program as functions of data. By program. CheckAct of the program as a function of data: the kinds and the miss,joined. And further parts. -/
import Derived.Test.YtpkbmngnolhopaaGreatDoorXT3i
import Derived.Test.YtpkbmngnolhopaaGreatDoorXTeK23a
import Derived.Test.YtpkbmngnolhopaaGreatDoorXTeB4a
set_option maxRecDepth 100000
set_option linter.all false
set_option linter.unusedVariables false
set_option linter.unusedSimpArgs false
namespace Go.Proofs.Tryz
open Go Go.Sx
noncomputable def Qx9(F:Nat):LK:=lC (Wa F) (lS (PF.Qo (Xb F)) (lS (PF.Qo (Wh F)) (lS (PF.Qo (Y8 F)) (lS (PF.Qo (Xg F)) (lX (Vi F) (lX (V1 F) (lX (Ku F) lN)))))))
noncomputable def Qiv(F:Nat)(b:Z4):Option (Int):=
 tw (X:=Int) (Qs.eqv (Qf.val (Ty.int Go.IntKind.i64)::Qa Qf)) (gd (!Qc b.2.1 {data:=List.toArray (99::108::117::98::Qa UInt8)}) (gd (!Qc b.2.1 {data:=List.toArray (97::116::104::108::101::116::101::Qa UInt8)}) (gd (!Qc b.2.1 {data:=List.toArray (108::105::99::101::110::99::101::Qa UInt8)}) (gd (!Qc b.2.1 {data:=List.toArray (116::114::97::110::115::102::101::114::Qa UInt8)}) (gd (!Qc b.2.1 {data:=List.toArray (101::110::116::101::114::Qa UInt8)}) (gd (!Qc b.2.1 {data:=List.toArray (119::105::116::104::100::114::97::119::Qa UInt8)}) (gd (!Qc b.2.1 {data:=List.toArray (99::104::101::99::107::Qa UInt8)}) (gd (!Qc b.2.1 {data:=List.toArray (116::101::97::109::Qa UInt8)}) (tw (X:=Int) (Qs.eqv (Qf.val (Ty.int Go.IntKind.i64)::Qa Qf)) ((Zz F (b.1::Qa Int)).bind fun(v22:Int)=>some ((13:Int))))))))))))
def Zbn(F:Nat):Q7:=(.two .leaf (.two (.low) .leaf))
theorem Yii(F:Nat)(b:Z4):Zm cx (Qx9 F).x 1000 (Zbn F) f23 (Qq f23) Uf Zg (b)=Qiv F b:=by kernel_rfl
end Go.Proofs.Tryz
section
namespace Go.Sx
open Go
theorem Qg.cases{cx:Cx}{g:Nat}{ats rts:List Qf}{p:Qs ats→Bool}{c q:Qs ats→Option (Qs rts)}(h1:Qg cx g {ats:=ats,rts:=rts,code:=fun a=>bif p a then c a else none})
  (h2:Qg cx g {ats:=ats,rts:=rts,code:=q}):Qg cx g {ats:=ats,rts:=rts,code:=fun a=>bif p a then c a else q a}:=
 ⟨h1.fn,fun a y hy=>by
  have hy:(bif p a then c a else q a)=some y:=hy;cases e:p a with
  |true=>rw[e]at hy;exact h1.ok a y (by show(bif p a then c a else none)=some y;rw[e];exact hy)
  |false=>rw[e]at hy;exact h2.ok a y hy⟩
end Go.Sx
namespace Go.Proofs.Tryz
open Go Go.Sx
abbrev tA3:List Qf:=Uf
abbrev rA3:List Qf:=Zg
def Qgp:ByteArray:={data:=List.toArray [99,108,117,98]}
theorem Qbb{k:ByteArray}{c:Int×Z1→Option (Qs rA3)}{lx:Lx}{an:Q7}(hl:lx.Ok cx)(he:∀b,Zm cx lx 1000 an f23 (Qq f23) tA3 rA3 (b.1,k,b.2)=c b):Qg cx 23 {ats:=tA3,rts:=rA3,code:=fun a=>bif Qc a.2.1 k then c (a.1,a.2.2)else none}:=
 Qg.Zr Zs hl (n:=1000) (an:=an) (fn:=f23) (c:=Qq f23) (by kernel_rfl) (by kernel_rfl) (fun a y h=>by
  obtain⟨d,q,r⟩:=a;have h:(bif Qc q k then c (d,r)else none)=some y:=h;cases e:Qc q k with
  |false=>rw[e]at h;cases h
  |true=>rw[e]at h;obtain rfl:=Qmy _ _ e;exact(he (d,r)).trans h) (by kernel_rfl)
theorem Yis(F:Nat):Qg cx 23 {ats:=tA3,rts:=rA3,code:=fun a=>bif Qc a.2.1 Qgp then Qi7 F (a.1,a.2.2)else none}:=Qbb (Zg0 F).ok (Yf4 F)
def Qe7:ByteArray:={data:=List.toArray [97,116,104,108,101,116,101]}
theorem Zxa(F:Nat):Qg cx 23 {ats:=tA3,rts:=rA3,code:=fun a=>bif Qc a.2.1 Qe7 then Qh2 F (a.1,a.2.2)else none}:=Qbb (Zcm F).ok (Ycr F)
def Qgo:ByteArray:={data:=List.toArray [108,105,99,101,110,99,101]}
theorem Ydv(F:Nat):Qg cx 23 {ats:=tA3,rts:=rA3,code:=fun a=>bif Qc a.2.1 Qgo then Qhg F (a.1,a.2.2)else none}:=Qbb (Qyv F).ok (Zmp F)
def Qep:ByteArray:={data:=List.toArray [116,114,97,110,115,102,101,114]}
theorem Zt6(F:Nat):Qg cx 23 {ats:=tA3,rts:=rA3,code:=fun a=>bif Qc a.2.1 Qep then Qg8 F (a.1,a.2.2)else none}:=Qbb (Zdg F).ok (Zk0 F)
def Qfl:ByteArray:={data:=List.toArray [101,110,116,101,114]}
theorem Yhe(F:Nat):Qg cx 23 {ats:=tA3,rts:=rA3,code:=fun a=>bif Qc a.2.1 Qfl then Qip F (a.1,a.2.2)else none}:=Qbb (Zam F).ok (Zqv F)
def Qen:ByteArray:={data:=List.toArray [119,105,116,104,100,114,97,119]}
theorem Znn(F:Nat):Qg cx 23 {ats:=tA3,rts:=rA3,code:=fun a=>bif Qc a.2.1 Qen then Qia F (a.1,a.2.2)else none}:=Qbb (Qyl F).ok (Yh5 F)
def Qgm:ByteArray:={data:=List.toArray [99,104,101,99,107]}
theorem Ykp(F:Nat):Qg cx 23 {ats:=tA3,rts:=rA3,code:=fun a=>bif Qc a.2.1 Qgm then Qhn F (a.1,a.2.2)else none}:=Qbb (Qv4 F).ok (Ydf F)
def Qf3:ByteArray:={data:=List.toArray [116,101,97,109]}
theorem Yb3(F:Nat):Qg cx 23 {ats:=tA3,rts:=rA3,code:=fun a=>bif Qc a.2.1 Qf3 then Qg0 F (a.1,a.2.2)else none}:=Qbb (Zds F).ok (Zy8 F)
theorem Zwh(F:Nat):Qg cx 23 {ats:=tA3,rts:=rA3,code:=fun a=>Qiv F a}:=
 Qg.Zr Zs (Qx9 F).ok (n:=1000) (an:=Zbn F) (fn:=f23) (c:=Qq f23) (by kernel_rfl) (by kernel_rfl) (fun a y h=>(Yii F a).trans h) (by kernel_rfl)
noncomputable def c23(F:Nat)(a:Z4):Option (Int):=
 bif Qc a.2.1 Qgp then Qi7 F (a.1,a.2.2)else bif Qc a.2.1 Qe7 then Qh2 F (a.1,a.2.2)else bif Qc a.2.1 Qgo then Qhg F (a.1,a.2.2)else bif Qc a.2.1 Qep then Qg8 F (a.1,a.2.2)else bif Qc a.2.1 Qfl then Qip F (a.1,a.2.2)else bif Qc a.2.1 Qen then Qia F (a.1,a.2.2)else bif Qc a.2.1 Qgm then Qhn F (a.1,a.2.2)else bif Qc a.2.1 Qf3 then Qg0 F (a.1,a.2.2)else Qiv F a
noncomputable def Zz4(F:Nat):PC:={ats:=tA3,rts:=rA3,code:=c23 F}
theorem Yc0(F:Nat):Qg cx 23 (Zz4 F):=(Qg.cases (Yis F) (Qg.cases (Zxa F) (Qg.cases (Ydv F) (Qg.cases (Zt6 F) (Qg.cases (Yhe F) (Qg.cases (Znn F) (Qg.cases (Ykp F) (Qg.cases (Yb3 F) (Zwh F)))))))))
end Go.Proofs.Tryz
end
namespace Go.Proofs.Tryz
open Go Go.Sx
structure ShA (b:Yp):Prop where
 a:b.2.1.size≤60
 c:b.2.2.1.size≤60
 g:b.2.2.2.1.size≤60
 k:b.2.2.2.2.1.size≤60
 n:b.2.2.2.2.2.2.2.2.2.2.length≤10
 m:∀x∈b.2.2.2.2.2.2.2.2.2.2,x.size≤60
theorem Yt{F:Nat}(hF:400≤F){s:ByteArray}(hs:s.size≤60):c98 F s=some (Yy s):=l98 hF (by omega)
theorem Qax{F:Nat}(hF:400≤F)(d:Int):Zz F (d::Qa Int)=some (Yr d):=by rw[l85 (by simp[Qa];omega) (by simp[Qa])];simp[Qa,Yr]
theorem Qai{F:Nat}(hF:400≤F)(a b:Int):Q9 F (a::b::Qa Int)=some (Qn [a,b]):=J1 hF (by simp[Qa])
theorem Qci{F:Nat}(hF:400≤F)(a b c d e f g:Int):Q9 F (a::b::c::d::e::f::g::Qa Int)=some (Qn [a,b,c,d,e,f,g]):=J1 hF (by simp[Qa])
theorem Qbh(F:Nat)(s:ByteArray):Qx F (!Yy s,8)=some (Z8 s):=by rw[l86];unfold Z8;cases Yy s<;>rfl
theorem Qb6(F:Nat)(d:Int):Qx F (!decide (Yr d=0),3)=some (Yr d):=by rw[l86];unfold Yr;cases Z7 d<;>rfl
theorem Qcf(F:Nat)(b:Yp):Qx F (decide (b.2.2.2.2.2.2.1<b.2.2.2.2.2.1),11)=some (Qjy b):=by rw[l86];unfold Qjy;by_cases h:b.2.2.2.2.2.2.1<b.2.2.2.2.2.1<;>simp[h]
theorem mkR(b:Yp):Jf b.2.2.2.2.2.2.2.1 b.2.2.2.2.2.2.2.2.1 b.2.2.2.2.2.2.2.2.2.1=Qmk b:=rfl
theorem fz2(d:Int):Qn [0,d]=d:=by show(if(0:Int)=0 then(if d=0 then 0 else d)else 0)=d;by_cases h:d=0<;>simp[h]
theorem Qb0{F:Nat}(hF:400≤F){b:Yp}(h:ShA b):Kz F b.2.2.2.2.2.2.2.2.2.2=some (Qn (b.2.2.2.2.2.2.2.2.2.2.map Z8)):=by
 have h1:=h.n;unfold Kz;refine Qmp b.2.2.2.2.2.2.2.2.2.2 Z8 (by omega) ?_ ?_ ?_
 ·intro i x hi hx;have hs:=h.m x (List.mem_of_getElem? hx);have e:Qm4 F ((i:Int),x)=some (Z8 x):=by unfold Qm4;simp only[l92 hF (show x.size≤300 by omega),Option.bind_some];rfl
  simp(disch:=omega)only[Zy,Zv,Int.toNat_natCast,getD_some hx,Zo,e,Option.bind_some,Nat.zero_add];by_cases h0:Z8 x=0<;>simp[h0]
 ·simp(disch:=omega)only[Zq]
 ·by_cases h2:Qn (b.2.2.2.2.2.2.2.2.2.2.map Z8)=0<;>simp[h2]
theorem Zt1(l:List ByteArray):Qn [if decide ((8:Int)<(l.length:Int))=true then 5 else 0,Qn (l.map Z8)]=Qj7 l:=by
 unfold Qj7;by_cases h:8<l.length
 ·have h':(8:Int)<l.length:=by omega
  simp[h,h',Qn]
 ·have h':¬(8:Int)<l.length:=by omega
  simp only[h,h',decide_false,if_false,Bool.false_eq_true];exact fz2 _
theorem Zyq:(!Decidable.decide (Go.IntKind.wrap Go.IntKind.i64 ((BitVec.toNat (BitVec.ofInt (64:Nat) (2:Int)&&& BitVec.ofInt (64:Nat) (64:Int)):Nat):Int)=(0:Int)))=false:=by rfl
theorem Zz8:(!Decidable.decide (Go.IntKind.wrap Go.IntKind.i64 ((BitVec.toNat (BitVec.ofInt (64:Nat) (2:Int)&&& BitVec.ofInt (64:Nat) (128:Int)):Nat):Int)=(0:Int)))=false:=by rfl
theorem Zjd:(!Decidable.decide (Go.IntKind.wrap Go.IntKind.i64 ((BitVec.toNat (BitVec.ofInt (64:Nat) (3:Int)&&& BitVec.ofInt (64:Nat) (64:Int)):Nat):Int)=(0:Int)))=false:=by rfl
theorem Zjr:(!Decidable.decide (Go.IntKind.wrap Go.IntKind.i64 ((BitVec.toNat (BitVec.ofInt (64:Nat) (3:Int)&&& BitVec.ofInt (64:Nat) (128:Int)):Nat):Int)=(0:Int)))=false:=by rfl
theorem Zea:(!Decidable.decide (Go.IntKind.wrap Go.IntKind.i64 ((BitVec.toNat (BitVec.ofInt (64:Nat) (9:Int)&&& BitVec.ofInt (64:Nat) (64:Int)):Nat):Int)=(0:Int)))=false:=by rfl
theorem Qza:(!Decidable.decide (Go.IntKind.wrap Go.IntKind.i64 ((BitVec.toNat (BitVec.ofInt (64:Nat) (9:Int)&&& BitVec.ofInt (64:Nat) (128:Int)):Nat):Int)=(0:Int)))=false:=by rfl
theorem Zyt:(!Decidable.decide (Go.IntKind.wrap Go.IntKind.i64 ((BitVec.toNat (BitVec.ofInt (64:Nat) (23:Int)&&& BitVec.ofInt (64:Nat) (64:Int)):Nat):Int)=(0:Int)))=false:=by rfl
theorem Yjg:(!Decidable.decide (Go.IntKind.wrap Go.IntKind.i64 ((BitVec.toNat (BitVec.ofInt (64:Nat) (23:Int)&&& BitVec.ofInt (64:Nat) (128:Int)):Nat):Int)=(0:Int)))=false:=by rfl
theorem Zz7:(!Decidable.decide (Go.IntKind.wrap Go.IntKind.i64 ((BitVec.toNat (BitVec.ofInt (64:Nat) (49:Int)&&& BitVec.ofInt (64:Nat) (64:Int)):Nat):Int)=(0:Int)))=false:=by rfl
theorem Yao:(!Decidable.decide (Go.IntKind.wrap Go.IntKind.i64 ((BitVec.toNat (BitVec.ofInt (64:Nat) (49:Int)&&& BitVec.ofInt (64:Nat) (128:Int)):Nat):Int)=(0:Int)))=false:=by rfl
theorem Yag:(!Decidable.decide (Go.IntKind.wrap Go.IntKind.i64 ((BitVec.toNat (BitVec.ofInt (64:Nat) (73:Int)&&& BitVec.ofInt (64:Nat) (64:Int)):Nat):Int)=(0:Int)))=true:=by rfl
theorem Zkg:(!Decidable.decide (Go.IntKind.wrap Go.IntKind.i64 ((BitVec.toNat (BitVec.ofInt (64:Nat) (73:Int)&&& BitVec.ofInt (64:Nat) (128:Int)):Nat):Int)=(0:Int)))=false:=by rfl
theorem Ydg:(!Decidable.decide (Go.IntKind.wrap Go.IntKind.i64 ((BitVec.toNat (BitVec.ofInt (64:Nat) (138:Int)&&& BitVec.ofInt (64:Nat) (64:Int)):Nat):Int)=(0:Int)))=false:=by rfl
theorem Zv2:(!Decidable.decide (Go.IntKind.wrap Go.IntKind.i64 ((BitVec.toNat (BitVec.ofInt (64:Nat) (138:Int)&&& BitVec.ofInt (64:Nat) (128:Int)):Nat):Int)=(0:Int)))=true:=by rfl
theorem Ydy{F:Nat}(hF:400≤F){b:Yp}(h:ShA b):Qkq F b=some (Yn false true false false false false false false false b):=by
 unfold Qkq;rw[show Yn false true false false false false false false false b=Qn (Yr b.1::([0,Z8 b.2.2.1,0,0,0,0,0]++[0,0,if Ju false true false false false false false false b=true then 1 else 0]))from rfl,X7,Qae];simp only[Yt hF h.a,Yt hF h.c,Yt hF h.g,Yt hF h.k,Qbh,Qax hF,Qb6,Qcf,Qai hF,Qci hF,fz2,Option.bind_some,Zyq,Zz8,Qb0 hF h,l99 hF,mkR];generalize hz:Qn [0,Z8 b.2.2.1,0,0,0,0,0]=z;by_cases hd:Yr b.1=0
 ·simp only[hd,decide_true,Bool.not_true,cond_false,if_true];by_cases hq:z=0
  ·simp only[hq,decide_true,Bool.not_true,cond_true,cond_false,if_true,Option.bind_some];simp only[X7,if_true];rw[show({data:=List.toArray (Qa UInt8)}:ByteArray)=k0 from rfl];unfold Ju;simp only[l86,Bool.not_true,Bool.not_false,Bool.false_and,Bool.true_and,Bool.false_or,Bool.or_false];generalize (!Qc b.2.1 k0)=i0;generalize (!Qc b.2.2.2.1 k0)=i1;generalize (!Qc b.2.2.2.2.1 k0)=i2;generalize (!decide (b.2.2.2.2.2.1=0))=i3;generalize (!decide (b.2.2.2.2.2.2.1=0))=i4;generalize (!(b.2.2.2.2.2.2.2.1==k0&&(decide (b.2.2.2.2.2.2.2.2.1=0)&&(b.2.2.2.2.2.2.2.2.2.1==k0&&true))))=i5;generalize (decide ((0:Int)<(b.2.2.2.2.2.2.2.2.2.2.length:Int)))=i6;cases i0<;>cases i1<;>cases i2<;>cases i3<;>cases i4<;>cases i5<;>cases i6<;>rfl
  ·simp only[hq,decide_false,Bool.not_false,cond_true,cond_false,if_false,Option.bind_some]
 ·simp only[hd,decide_false,Bool.not_false,cond_true,if_false]
theorem Zn7{F:Nat}(hF:400≤F){b:Yp}(h:ShA b):Qi7 F b=some (Yn false true false false false false false false false b):=by unfold Qi7 tw;simp only[Ydy hF h,Option.bind_some,V3,Zp]
theorem Zvl{F:Nat}(hF:400≤F){b:Yp}(h:ShA b):Qta F b=some (Yn true true true false true false false false false b):=by
 unfold Qta;rw[show Yn true true true false true false false false false b=Qn (Yr b.1::([Z8 b.2.1,Z8 b.2.2.1,Z8 b.2.2.2.1,0,Yr b.2.2.2.2.2.1,0,0]++[0,0,if Ju true true true false true false false false b=true then 1 else 0]))from rfl,X7,Qae];simp only[Yt hF h.a,Yt hF h.c,Yt hF h.g,Yt hF h.k,Qbh,Qax hF,Qb6,Qcf,Qai hF,Qci hF,fz2,Option.bind_some,Zyt,Yjg,Qb0 hF h,l99 hF,mkR];generalize hz:Qn [Z8 b.2.1,Z8 b.2.2.1,Z8 b.2.2.2.1,0,Yr b.2.2.2.2.2.1,0,0]=z;by_cases hd:Yr b.1=0
 ·simp only[hd,decide_true,Bool.not_true,cond_false,if_true];by_cases hq:z=0
  ·simp only[hq,decide_true,Bool.not_true,cond_true,cond_false,if_true,Option.bind_some];simp only[X7,if_true];rw[show({data:=List.toArray (Qa UInt8)}:ByteArray)=k0 from rfl];unfold Ju;simp only[l86,Bool.not_true,Bool.not_false,Bool.false_and,Bool.true_and,Bool.false_or,Bool.or_false];generalize (!Qc b.2.2.2.2.1 k0)=i0;generalize (!decide (b.2.2.2.2.2.2.1=0))=i1;generalize (!(b.2.2.2.2.2.2.2.1==k0&&(decide (b.2.2.2.2.2.2.2.2.1=0)&&(b.2.2.2.2.2.2.2.2.2.1==k0&&true))))=i2;generalize (decide ((0:Int)<(b.2.2.2.2.2.2.2.2.2.2.length:Int)))=i3;cases i0<;>cases i1<;>cases i2<;>cases i3<;>rfl
  ·simp only[hq,decide_false,Bool.not_false,cond_true,cond_false,if_false,Option.bind_some]
 ·simp only[hd,decide_false,Bool.not_false,cond_true,if_false]
theorem Zru{F:Nat}(hF:400≤F){b:Yp}(h:ShA b):Qh2 F b=some (Yn true true true false true false false false false b):=by unfold Qh2 tw;simp only[Zvl hF h,Option.bind_some,V3,Zp]
theorem Zr4{F:Nat}(hF:400≤F){b:Yp}(h:ShA b):Qut F b=some (Yn true false false false true true false false true b):=by
 unfold Qut;rw[show Yn true false false false true true false false true b=Qn (Yr b.1::([Z8 b.2.1,0,0,0,Yr b.2.2.2.2.2.1,Yr b.2.2.2.2.2.2.1,Qjy b]++[0,0,if Ju true false false false true true false false b=true then 1 else 0]))from rfl,X7,Qae];simp only[Yt hF h.a,Yt hF h.c,Yt hF h.g,Yt hF h.k,Qbh,Qax hF,Qb6,Qcf,Qai hF,Qci hF,fz2,Option.bind_some,Zz7,Yao,Qb0 hF h,l99 hF,mkR];generalize hz:Qn [Z8 b.2.1,0,0,0,Yr b.2.2.2.2.2.1,Yr b.2.2.2.2.2.2.1,Qjy b]=z;by_cases hd:Yr b.1=0
 ·simp only[hd,decide_true,Bool.not_true,cond_false,if_true];by_cases hq:z=0
  ·simp only[hq,decide_true,Bool.not_true,cond_true,cond_false,if_true,Option.bind_some];simp only[X7,if_true];rw[show({data:=List.toArray (Qa UInt8)}:ByteArray)=k0 from rfl];unfold Ju;simp only[l86,Bool.not_true,Bool.not_false,Bool.false_and,Bool.true_and,Bool.false_or,Bool.or_false];generalize (!Qc b.2.2.1 k0)=i0;generalize (!Qc b.2.2.2.1 k0)=i1;generalize (!Qc b.2.2.2.2.1 k0)=i2;generalize (!(b.2.2.2.2.2.2.2.1==k0&&(decide (b.2.2.2.2.2.2.2.2.1=0)&&(b.2.2.2.2.2.2.2.2.2.1==k0&&true))))=i3;generalize (decide ((0:Int)<(b.2.2.2.2.2.2.2.2.2.2.length:Int)))=i4;cases i0<;>cases i1<;>cases i2<;>cases i3<;>cases i4<;>rfl
  ·simp only[hq,decide_false,Bool.not_false,cond_true,cond_false,if_false,Option.bind_some]
 ·simp only[hd,decide_false,Bool.not_false,cond_true,if_false]
theorem Zvr{F:Nat}(hF:400≤F){b:Yp}(h:ShA b):Qhg F b=some (Yn true false false false true true false false true b):=by unfold Qhg tw;simp only[Zr4 hF h,Option.bind_some,V3,Zp]
theorem Zpl{F:Nat}(hF:400≤F){b:Yp}(h:ShA b):Qrv F b=some (Yn true true false false false false false false false b):=by
 unfold Qrv;rw[show Yn true true false false false false false false false b=Qn (Yr b.1::([Z8 b.2.1,Z8 b.2.2.1,0,0,0,0,0]++[0,0,if Ju true true false false false false false false b=true then 1 else 0]))from rfl,X7,Qae];simp only[Yt hF h.a,Yt hF h.c,Yt hF h.g,Yt hF h.k,Qbh,Qax hF,Qb6,Qcf,Qai hF,Qci hF,fz2,Option.bind_some,Zjd,Zjr,Qb0 hF h,l99 hF,mkR];generalize hz:Qn [Z8 b.2.1,Z8 b.2.2.1,0,0,0,0,0]=z;by_cases hd:Yr b.1=0
 ·simp only[hd,decide_true,Bool.not_true,cond_false,if_true];by_cases hq:z=0
  ·simp only[hq,decide_true,Bool.not_true,cond_true,cond_false,if_true,Option.bind_some];simp only[X7,if_true];rw[show({data:=List.toArray (Qa UInt8)}:ByteArray)=k0 from rfl];unfold Ju;simp only[l86,Bool.not_true,Bool.not_false,Bool.false_and,Bool.true_and,Bool.false_or,Bool.or_false];generalize (!Qc b.2.2.2.1 k0)=i0;generalize (!Qc b.2.2.2.2.1 k0)=i1;generalize (!decide (b.2.2.2.2.2.1=0))=i2;generalize (!decide (b.2.2.2.2.2.2.1=0))=i3;generalize (!(b.2.2.2.2.2.2.2.1==k0&&(decide (b.2.2.2.2.2.2.2.2.1=0)&&(b.2.2.2.2.2.2.2.2.2.1==k0&&true))))=i4;generalize (decide ((0:Int)<(b.2.2.2.2.2.2.2.2.2.2.length:Int)))=i5;cases i0<;>cases i1<;>cases i2<;>cases i3<;>cases i4<;>cases i5<;>rfl
  ·simp only[hq,decide_false,Bool.not_false,cond_true,cond_false,if_false,Option.bind_some]
 ·simp only[hd,decide_false,Bool.not_false,cond_true,if_false]
theorem Zlb{F:Nat}(hF:400≤F){b:Yp}(h:ShA b):Qg8 F b=some (Yn true true false false false false false false false b):=by unfold Qg8 tw;simp only[Zpl hF h,Option.bind_some,V3,Zp]
theorem Yjz{F:Nat}(hF:400≤F){b:Yp}(h:ShA b):Qtr F b=some (Yn true false false true false false true false false b):=by
 unfold Qtr;rw[show Yn true false false true false false true false false b=Qn (Yr b.1::([Z8 b.2.1,0,0,Z8 b.2.2.2.2.1,0,0,0]++[Qmk b,0,if Ju true false false true false false true false b=true then 1 else 0]))from rfl,X7,Qae];simp only[Yt hF h.a,Yt hF h.c,Yt hF h.g,Yt hF h.k,Qbh,Qax hF,Qb6,Qcf,Qai hF,Qci hF,fz2,Option.bind_some,Yag,Zkg,Qb0 hF h,l99 hF,mkR];generalize hz:Qn [Z8 b.2.1,0,0,Z8 b.2.2.2.2.1,0,0,0]=z;by_cases hd:Yr b.1=0
 ·simp only[hd,decide_true,Bool.not_true,cond_false,if_true];by_cases hq:z=0
  ·simp only[hq,decide_true,Bool.not_true,cond_true,cond_false,if_true,Option.bind_some];by_cases hm:Qmk b=0
   ·simp only[hm,X7,decide_true,Bool.not_true,cond_true,cond_false,if_true,Option.bind_some];rw[show({data:=List.toArray (Qa UInt8)}:ByteArray)=k0 from rfl];unfold Ju;simp only[l86,Bool.not_true,Bool.not_false,Bool.false_and,Bool.true_and,Bool.false_or,Bool.or_false];generalize (!Qc b.2.2.1 k0)=i0;generalize (!Qc b.2.2.2.1 k0)=i1;generalize (!decide (b.2.2.2.2.2.1=0))=i2;generalize (!decide (b.2.2.2.2.2.2.1=0))=i3;generalize (decide ((0:Int)<(b.2.2.2.2.2.2.2.2.2.2.length:Int)))=i4;cases i0<;>cases i1<;>cases i2<;>cases i3<;>cases i4<;>rfl
   ·simp only[hm,X7,decide_false,Bool.not_false,cond_true,cond_false,if_false,Option.bind_some]
  ·simp only[hq,decide_false,Bool.not_false,cond_true,cond_false,if_false,Option.bind_some]
 ·simp only[hd,decide_false,Bool.not_false,cond_true,if_false]
theorem Zie{F:Nat}(hF:400≤F){b:Yp}(h:ShA b):Qip F b=some (Yn true false false true false false true false false b):=by unfold Qip tw;simp only[Yjz hF h,Option.bind_some,V3,Zp]
theorem Yjt{F:Nat}(hF:400≤F){b:Yp}(h:ShA b):Qvc F b=some (Yn true false false true false false false false false b):=by
 unfold Qvc;rw[show Yn true false false true false false false false false b=Qn (Yr b.1::([Z8 b.2.1,0,0,Z8 b.2.2.2.2.1,0,0,0]++[0,0,if Ju true false false true false false false false b=true then 1 else 0]))from rfl,X7,Qae];simp only[Yt hF h.a,Yt hF h.c,Yt hF h.g,Yt hF h.k,Qbh,Qax hF,Qb6,Qcf,Qai hF,Qci hF,fz2,Option.bind_some,Zea,Qza,Qb0 hF h,l99 hF,mkR];generalize hz:Qn [Z8 b.2.1,0,0,Z8 b.2.2.2.2.1,0,0,0]=z;by_cases hd:Yr b.1=0
 ·simp only[hd,decide_true,Bool.not_true,cond_false,if_true];by_cases hq:z=0
  ·simp only[hq,decide_true,Bool.not_true,cond_true,cond_false,if_true,Option.bind_some];simp only[X7,if_true];rw[show({data:=List.toArray (Qa UInt8)}:ByteArray)=k0 from rfl];unfold Ju;simp only[l86,Bool.not_true,Bool.not_false,Bool.false_and,Bool.true_and,Bool.false_or,Bool.or_false];generalize (!Qc b.2.2.1 k0)=i0;generalize (!Qc b.2.2.2.1 k0)=i1;generalize (!decide (b.2.2.2.2.2.1=0))=i2;generalize (!decide (b.2.2.2.2.2.2.1=0))=i3;generalize (!(b.2.2.2.2.2.2.2.1==k0&&(decide (b.2.2.2.2.2.2.2.2.1=0)&&(b.2.2.2.2.2.2.2.2.2.1==k0&&true))))=i4;generalize (decide ((0:Int)<(b.2.2.2.2.2.2.2.2.2.2.length:Int)))=i5;cases i0<;>cases i1<;>cases i2<;>cases i3<;>cases i4<;>cases i5<;>rfl
  ·simp only[hq,decide_false,Bool.not_false,cond_true,cond_false,if_false,Option.bind_some]
 ·simp only[hd,decide_false,Bool.not_false,cond_true,if_false]
theorem Yb0{F:Nat}(hF:400≤F){b:Yp}(h:ShA b):Qia F b=some (Yn true false false true false false false false false b):=by unfold Qia tw;simp only[Yjt hF h,Option.bind_some,V3,Zp]
theorem Zmg{F:Nat}(hF:400≤F){b:Yp}(h:ShA b):Qsx F b=some (Yn true false false true false false false false false b):=by
 unfold Qsx;rw[show Yn true false false true false false false false false b=Qn (Yr b.1::([Z8 b.2.1,0,0,Z8 b.2.2.2.2.1,0,0,0]++[0,0,if Ju true false false true false false false false b=true then 1 else 0]))from rfl,X7,Qae];simp only[Yt hF h.a,Yt hF h.c,Yt hF h.g,Yt hF h.k,Qbh,Qax hF,Qb6,Qcf,Qai hF,Qci hF,fz2,Option.bind_some,Zea,Qza,Qb0 hF h,l99 hF,mkR];generalize hz:Qn [Z8 b.2.1,0,0,Z8 b.2.2.2.2.1,0,0,0]=z;by_cases hd:Yr b.1=0
 ·simp only[hd,decide_true,Bool.not_true,cond_false,if_true];by_cases hq:z=0
  ·simp only[hq,decide_true,Bool.not_true,cond_true,cond_false,if_true,Option.bind_some];simp only[X7,if_true];rw[show({data:=List.toArray (Qa UInt8)}:ByteArray)=k0 from rfl];unfold Ju;simp only[l86,Bool.not_true,Bool.not_false,Bool.false_and,Bool.true_and,Bool.false_or,Bool.or_false];generalize (!Qc b.2.2.1 k0)=i0;generalize (!Qc b.2.2.2.1 k0)=i1;generalize (!decide (b.2.2.2.2.2.1=0))=i2;generalize (!decide (b.2.2.2.2.2.2.1=0))=i3;generalize (!(b.2.2.2.2.2.2.2.1==k0&&(decide (b.2.2.2.2.2.2.2.2.1=0)&&(b.2.2.2.2.2.2.2.2.2.1==k0&&true))))=i4;generalize (decide ((0:Int)<(b.2.2.2.2.2.2.2.2.2.2.length:Int)))=i5;cases i0<;>cases i1<;>cases i2<;>cases i3<;>cases i4<;>cases i5<;>rfl
  ·simp only[hq,decide_false,Bool.not_false,cond_true,cond_false,if_false,Option.bind_some]
 ·simp only[hd,decide_false,Bool.not_false,cond_true,if_false]
theorem Zpd{F:Nat}(hF:400≤F){b:Yp}(h:ShA b):Qhn F b=some (Yn true false false true false false false false false b):=by unfold Qhn tw;simp only[Zmg hF h,Option.bind_some,V3,Zp]
theorem Zr6{F:Nat}(hF:400≤F){b:Yp}(h:ShA b):Qsj F b=some (Yn false true false true false false false true false b):=by
 unfold Qsj;rw[show Yn false true false true false false false true false b=Qn (Yr b.1::([0,Z8 b.2.2.1,0,Z8 b.2.2.2.2.1,0,0,0]++[0,Qj7 b.2.2.2.2.2.2.2.2.2.2,if Ju false true false true false false false true b=true then 1 else 0]))from rfl,X7,Qae];simp only[Yt hF h.a,Yt hF h.c,Yt hF h.g,Yt hF h.k,Qbh,Qax hF,Qb6,Qcf,Qai hF,Qci hF,fz2,Option.bind_some,Ydg,Zv2,Qb0 hF h,l99 hF,mkR];generalize hz:Qn [0,Z8 b.2.2.1,0,Z8 b.2.2.2.2.1,0,0,0]=z;by_cases hd:Yr b.1=0
 ·simp only[hd,decide_true,Bool.not_true,cond_false,if_true];by_cases hq:z=0
  ·simp only[hq,decide_true,Bool.not_true,cond_true,cond_false,if_true,Option.bind_some];simp only[l86,Qai hF,Zt1,Option.bind_some];by_cases hm:Qj7 b.2.2.2.2.2.2.2.2.2.2=0
   ·simp only[hm,X7,decide_true,Bool.not_true,cond_true,cond_false,if_true,Option.bind_some];rw[show({data:=List.toArray (Qa UInt8)}:ByteArray)=k0 from rfl];unfold Ju;simp only[l86,Bool.not_true,Bool.not_false,Bool.false_and,Bool.true_and,Bool.false_or,Bool.or_false];generalize (!Qc b.2.1 k0)=i0;generalize (!Qc b.2.2.2.1 k0)=i1;generalize (!decide (b.2.2.2.2.2.1=0))=i2;generalize (!decide (b.2.2.2.2.2.2.1=0))=i3;generalize (!(b.2.2.2.2.2.2.2.1==k0&&(decide (b.2.2.2.2.2.2.2.2.1=0)&&(b.2.2.2.2.2.2.2.2.2.1==k0&&true))))=i4;cases i0<;>cases i1<;>cases i2<;>cases i3<;>cases i4<;>rfl
   ·simp only[hm,X7,decide_false,Bool.not_false,cond_true,cond_false,if_false,Option.bind_some,if_true]
  ·simp only[hq,decide_false,Bool.not_false,cond_true,cond_false,if_false,Option.bind_some]
 ·simp only[hd,decide_false,Bool.not_false,cond_true,if_false]
theorem Zik{F:Nat}(hF:400≤F){b:Yp}(h:ShA b):Qg0 F b=some (Yn false true false true false false false true false b):=by unfold Qg0 tw;simp only[Zr6 hF h,Option.bind_some,V3,Zp]
def Vp(a:Qet):Int:=
 if Qc a.2.1 Qla=true then Yn false true false false false false false false false (a.1,a.2.2)
 else if Qc a.2.1 Qli=true then Yn true true true false true false false false false (a.1,a.2.2)
 else if Qc a.2.1 Qmz=true then Yn true false false false true true false false true (a.1,a.2.2)
 else if Qc a.2.1 Qpj=true then Yn true true false false false false false false false (a.1,a.2.2)
 else if Qc a.2.1 Qpe=true then Yn true false false true false false true false false (a.1,a.2.2)
 else if Qc a.2.1 Yz=true then Yn true false false true false false false false false (a.1,a.2.2)
 else if Qc a.2.1 Qlc=true then Yn true false false true false false false false false (a.1,a.2.2)
 else if Qc a.2.1 Qoj=true then Yn false true false true false false false true false (a.1,a.2.2)
 else 13
theorem Zup{F:Nat}(hF:400≤F)(a:Qet)(h:Qc a.2.1 Qla=false∧Qc a.2.1 Qli=false∧Qc a.2.1 Qmz=false∧Qc a.2.1 Qpj=false∧Qc a.2.1 Qpe=false∧Qc a.2.1 Yz=false∧Qc a.2.1 Qlc=false∧Qc a.2.1 Qoj=false):Qiv F a=some 13:=by obtain⟨h0,h1,h2,h3,h4,h5,h6,h7⟩:=h;have h0:Qc a.2.1 {data:=List.toArray ((99:UInt8)::(108:UInt8)::(117:UInt8)::(98:UInt8)::Qa UInt8)}=false:=h0;have h1:Qc a.2.1 {data:=List.toArray ((97:UInt8)::(116:UInt8)::(104:UInt8)::(108:UInt8)::(101:UInt8)::(116:UInt8)::(101:UInt8)::Qa UInt8)}=false:=h1;have h2:Qc a.2.1 {data:=List.toArray ((108:UInt8)::(105:UInt8)::(99:UInt8)::(101:UInt8)::(110:UInt8)::(99:UInt8)::(101:UInt8)::Qa UInt8)}=false:=h2;have h3:Qc a.2.1 {data:=List.toArray ((116:UInt8)::(114:UInt8)::(97:UInt8)::(110:UInt8)::(115:UInt8)::(102:UInt8)::(101:UInt8)::(114:UInt8)::Qa UInt8)}=false:=h3;have h4:Qc a.2.1 {data:=List.toArray ((101:UInt8)::(110:UInt8)::(116:UInt8)::(101:UInt8)::(114:UInt8)::Qa UInt8)}=false:=h4;have h5:Qc a.2.1 {data:=List.toArray ((119:UInt8)::(105:UInt8)::(116:UInt8)::(104:UInt8)::(100:UInt8)::(114:UInt8)::(97:UInt8)::(119:UInt8)::Qa UInt8)}=false:=h5;have h6:Qc a.2.1 {data:=List.toArray ((99:UInt8)::(104:UInt8)::(101:UInt8)::(99:UInt8)::(107:UInt8)::Qa UInt8)}=false:=h6;have h7:Qc a.2.1 {data:=List.toArray ((116:UInt8)::(101:UInt8)::(97:UInt8)::(109:UInt8)::Qa UInt8)}=false:=h7;unfold Qiv tw;simp only[h0,h1,h2,h3,h4,h5,h6,h7,Qax hF,Bool.not_false,Zp,Option.bind_some,V3]
theorem l23{F:Nat}(hF:400≤F){a:Qet}(h:ShA (a.1,a.2.2)):c23 F a=some (Vp a):=by
 unfold c23 Vp;rw[show Qgp=Qla from rfl];by_cases h0:Qc a.2.1 Qla=true
 ·rw[h0,cond_true,if_pos rfl,Zn7 hF h]
 ·rw[Bool.eq_false_iff.2 h0,cond_false,if_neg (by decide)];rw[show Qe7=Qli from rfl];by_cases h1:Qc a.2.1 Qli=true
  ·rw[h1,cond_true,if_pos rfl,Zru hF h]
  ·rw[Bool.eq_false_iff.2 h1,cond_false,if_neg (by decide)];rw[show Qgo=Qmz from rfl];by_cases h2:Qc a.2.1 Qmz=true
   ·rw[h2,cond_true,if_pos rfl,Zvr hF h]
   ·rw[Bool.eq_false_iff.2 h2,cond_false,if_neg (by decide)];rw[show Qep=Qpj from rfl];by_cases h3:Qc a.2.1 Qpj=true
    ·rw[h3,cond_true,if_pos rfl,Zlb hF h]
    ·rw[Bool.eq_false_iff.2 h3,cond_false,if_neg (by decide)];rw[show Qfl=Qpe from rfl];by_cases h4:Qc a.2.1 Qpe=true
     ·rw[h4,cond_true,if_pos rfl,Zie hF h]
     ·rw[Bool.eq_false_iff.2 h4,cond_false,if_neg (by decide)];rw[show Qen=Yz from rfl];by_cases h5:Qc a.2.1 Yz=true
      ·rw[h5,cond_true,if_pos rfl,Yb0 hF h]
      ·rw[Bool.eq_false_iff.2 h5,cond_false,if_neg (by decide)];rw[show Qgm=Qlc from rfl];by_cases h6:Qc a.2.1 Qlc=true
       ·rw[h6,cond_true,if_pos rfl,Zpd hF h]
       ·rw[Bool.eq_false_iff.2 h6,cond_false,if_neg (by decide)];rw[show Qf3=Qoj from rfl];by_cases h7:Qc a.2.1 Qoj=true
        ·rw[h7,cond_true,if_pos rfl,Zik hF h]
        ·rw[Bool.eq_false_iff.2 h7,cond_false,if_neg (by decide)];exact Zup hF a ⟨Bool.eq_false_iff.2 h0,Bool.eq_false_iff.2 h1,Bool.eq_false_iff.2 h2,Bool.eq_false_iff.2 h3,Bool.eq_false_iff.2 h4,Bool.eq_false_iff.2 h5,Bool.eq_false_iff.2 h6,Bool.eq_false_iff.2 h7⟩
end Go.Proofs.Tryz
section
namespace Go.Proofs.Tryz
open Go Go.Sx
end Go.Proofs.Tryz
end
namespace Go.Proofs.Tryz
open Go Go.Sx
theorem Qc5{m:Mt}{s:Qw}(hv:Z0 m s=0):mtE m=0:=by
 by_cases h:mtE m=0
 ·exact h
 ·rw[Z0,if_neg h]at hv;exact absurd hv h
def J8(m:Mt)(s:Qw)(b:Yp):Int:=if eI s b.2.1 b.2.2.2.2.1<0 then 10 else if m.1<b.1 then 20 else 0
theorem Yj5{F:Nat}(hF:400≤F){m:Mt}{s:Qw}(h:SmS s)(k:ByteArray)(b:Yp):Qk6 F (m,s,b.1,k,b.2)=some (J8 m s b):=by have e2:∀a b,Q9 F (a::b::Qa Int)=some (Qn [a,b]):=fun a b=>J1 hF (by simp[Qa]);unfold Qk6 J8;simp only[Zu,Qqq hF h,l86,e2,Option.bind_some];by_cases p1:eI s b.2.1 b.2.2.2.2.1<0<;>by_cases p2:m.1<b.1<;>simp[p1,p2,Qn]
noncomputable def Ydc(F:Nat):LK:=lN
noncomputable def c81(F:Nat)(a:PUnit):Option (Za):=
 some (((8000:Int),(7900:Int),(7990:Int),(2:Int),({data:=List.toArray (115::112::114::105::110::116::Qa UInt8)},{data:=List.toArray (116::105::109::101::Qa UInt8)},(ByteArray.mk (List.toArray (Qa UInt8))),(16:Int),(40:Int),(2:Int),(1:Int),{data:=List.toArray (116::105::109::101::Qa UInt8)},(120000:Int),(ByteArray.mk (List.toArray (Qa UInt8))),(0:Int))::({data:=List.toArray (106::117::109::112::Qa UInt8)},{data:=List.toArray (108::101::110::103::116::104::Qa UInt8)},(ByteArray.mk (List.toArray (Qa UInt8))),(16:Int),(40:Int),(8:Int),(2:Int),{data:=List.toArray (110::111::110::101::Qa UInt8)},(0:Int),{data:=List.toArray (78::77::Qa UInt8)},(0:Int))::({data:=List.toArray (114::101::108::97::121::Qa UInt8)},{data:=List.toArray (116::105::109::101::Qa UInt8)},(ByteArray.mk (List.toArray (Qa UInt8))),(16:Int),(40:Int),(8:Int),(1:Int),{data:=List.toArray (110::111::110::101::Qa UInt8)},(0:Int),{data:=List.toArray (78::77::Qa UInt8)},(2:Int))::Qa (Yh)))
noncomputable def Zbr(F:Nat):PC:={ats:=[],rts:=[.agg Y9],code:=c81 F}
theorem Yh0(F:Nat):Qg cx 81 (Zbr F):=qE (Ydc F) .leaf f81 (by kernel_rfl) fun a=>by kernel_rfl
noncomputable def Zsg(F:Nat):LK:=lN
noncomputable def c83(F:Nat)(a:Int):Option (ByteArray×Int×ByteArray):=
 some (({data:=List.toArray (116::105::109::101::Qa UInt8)},w64 ((100:Int)*a),(ByteArray.mk (List.toArray (Qa UInt8)))))
noncomputable def Quc(F:Nat):PC:={ats:=Zg,rts:=[.agg Wk],code:=c83 F}
theorem Za4(F:Nat):Qg cx 83 (Quc F):=qE (Zsg F) .leaf f83 (by kernel_rfl) fun a=>by kernel_rfl
end Go.Proofs.Tryz
