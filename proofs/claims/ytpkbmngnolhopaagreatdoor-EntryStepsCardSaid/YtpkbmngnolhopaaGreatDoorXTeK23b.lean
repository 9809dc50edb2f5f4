/- Functions of the program as functions of data. By program. CheckAct of the program as a function of data: the kinds and the miss,joined. -/
import Derived.Test.YtpkbmngnolhopaaGreatDoorXT3i
import Derived.Test.YtpkbmngnolhopaaGreatDoorXTeK23a
set_option maxRecDepth 100000
set_option linter.all false
set_option linter.unusedVariables false
open List renaming toArray->j
namespace Go.Proofs.Tryz
open Go Go.Sx
noncomputable def Zg2(F:Nat):LK:=lC (Va F) (lS (PF.Qq (Xn F)) (lS (PF.Qq (Ve F)) (lS (PF.Qq (Xm F)) (lS (PF.Qq (Xu F)) (lX (Kc F) (lX (Uf F) (lX (Ur F) lN)))))))
noncomputable def Qkt(F:Nat)(b:Qz):Option (Int):=
 tw (X:=Int) (Qt.eqv (Qe.val (Ty.int Go.IntKind.i64)::Qa Qe)) (gd (!Qc b.2.1 YK) (gd (!Qc b.2.1 YG) (gd (!Qc b.2.1 YH) (gd (!Qc b.2.1 YE) (gd (!Qc b.2.1 YF) (gd (!Qc b.2.1 YC) (gd (!Qc b.2.1 YI) (gd (!Qc b.2.1 YJ) (tw (X:=Int) (Qt.eqv (Qe.val (Ty.int Go.IntKind.i64)::Qa Qe)) ((Ye F (b.1::Qa Int)).bind fun v22=>some ((13:Int))))))))))))
def Zjb(F:Nat):Zb:=(.two .leaf (.two (.low) .leaf))
theorem Zxh(F:Nat)(b:Qz):Zp cx (Zg2 F).x 1000 (Zjb F) f23 (Qo f23) Uk Zj (b)=Qkt F b:=by kernel_rfl
end Go.Proofs.Tryz
section
namespace Go.Sx
open Go
theorem Qg.cases{cx:Cx}{g:Nat}{ats rts:List Qe}{p:Qt ats->Bool}{c q:Qt ats->Option (Qt rts)}(h1:Qg cx g {ats:=ats,rts:=rts,code:=fun a=>bif p a then c a else none})
  (h2:Qg cx g {ats:=ats,rts:=rts,code:=q}):Qg cx g {ats:=ats,rts:=rts,code:=fun a=>bif p a then c a else q a}:=
 ⟨h1.fn,fun a y hy=>by
  have hy:(bif p a then c a else q a)=some y:=hy;cases e:p a with
  |true=>rw[e]at hy;exact h1.ok a y (by show(bif p a then c a else none)=some y;rw[e];exact hy)
  |false=>rw[e]at hy;exact h2.ok a y hy⟩
end Go.Sx
namespace Go.Proofs.Tryz
open Go Go.Sx
abbrev tA3:List Qe:=Uk
abbrev rA3:List Qe:=Zj
def Qe8:ByteArray:={data:=j [99,108,117,98]}
theorem Qdu{k:ByteArray}{c:Int×Z0->Option (Qt rA3)}{lx:Lx}{an:Zb}(hl:lx.Ok cx)(he:∀b,Zp cx lx 1000 an f23 (Qo f23) tA3 rA3 (b.1,k,b.2)=c b):Qg cx 23 {ats:=tA3,rts:=rA3,code:=fun a=>bif Qc a.2.1 k then c (a.1,a.2.2)else none}:=
 Qg.Z6 Z7 hl (n:=1000) (an:=an) (fn:=f23) (c:=Qo f23) (by kernel_rfl) (by kernel_rfl) (fun a y h=>by
  obtain⟨d,q,r⟩:=a;have h:(bif Qc q k then c (d,r)else none)=some y:=h;cases e:Qc q k with
  |false=>rw[e]at h;cases h
  |true=>rw[e]at h;obtain rfl:=Qmy _ _ e;exact(he (d,r)).trans h) (by kernel_rfl)
theorem Zxc(F:Nat):Qg cx 23 {ats:=tA3,rts:=rA3,code:=fun a=>bif Qc a.2.1 Qe8 then Qlx F (a.1,a.2.2)else none}:=Qdu (Zcc F).ok (Zul F)
def Qg5:ByteArray:={data:=j [97,116,104,108,101,116,101]}
theorem Yrh(F:Nat):Qg cx 23 {ats:=tA3,rts:=rA3,code:=fun a=>bif Qc a.2.1 Qg5 then Qmj F (a.1,a.2.2)else none}:=Qdu (Ze9 F).ok (Ztr F)
def Qgm:ByteArray:={data:=j [108,105,99,101,110,99,101]}
theorem Yrd(F:Nat):Qg cx 23 {ats:=tA3,rts:=rA3,code:=fun a=>bif Qc a.2.1 Qgm then Qml F (a.1,a.2.2)else none}:=Qdu (Zdm F).ok (Zqx F)
def Qfr:ByteArray:={data:=j [116,114,97,110,115,102,101,114]}
theorem Ycj(F:Nat):Qg cx 23 {ats:=tA3,rts:=rA3,code:=fun a=>bif Qc a.2.1 Qfr then Qmq F (a.1,a.2.2)else none}:=Qdu (Zfo F).ok (Yeu F)
def Qfz:ByteArray:={data:=j [101,110,116,101,114]}
theorem Zs3(F:Nat):Qg cx 23 {ats:=tA3,rts:=rA3,code:=fun a=>bif Qc a.2.1 Qfz then Qm8 F (a.1,a.2.2)else none}:=Qdu (Zdc F).ok (Yrl F)
def Qge:ByteArray:={data:=j [119,105,116,104,100,114,97,119]}
theorem Zro(F:Nat):Qg cx 23 {ats:=tA3,rts:=rA3,code:=fun a=>bif Qc a.2.1 Qge then Qk4 F (a.1,a.2.2)else none}:=Qdu (Zbb F).ok (Yde F)
def Qgv:ByteArray:={data:=j [99,104,101,99,107]}
theorem Yj5(F:Nat):Qg cx 23 {ats:=tA3,rts:=rA3,code:=fun a=>bif Qc a.2.1 Qgv then Qm9 F (a.1,a.2.2)else none}:=Qdu (Zak F).ok (Yfq F)
def Qgx:ByteArray:={data:=j [116,101,97,109]}
theorem Znr(F:Nat):Qg cx 23 {ats:=tA3,rts:=rA3,code:=fun a=>bif Qc a.2.1 Qgx then Qj3 F (a.1,a.2.2)else none}:=Qdu (Ze4 F).ok (Zwf F)
theorem Ya3(F:Nat):Qg cx 23 {ats:=tA3,rts:=rA3,code:=fun a=>Qkt F a}:=
 Qg.Z6 Z7 (Zg2 F).ok (n:=1000) (an:=Zjb F) (fn:=f23) (c:=Qo f23) (by kernel_rfl) (by kernel_rfl) (fun a y h=>(Zxh F a).trans h) (by kernel_rfl)
noncomputable def c23(F:Nat)(a:Qz):Option (Int):=
 bif Qc a.2.1 Qe8 then Qlx F (a.1,a.2.2)else bif Qc a.2.1 Qg5 then Qmj F (a.1,a.2.2)else bif Qc a.2.1 Qgm then Qml F (a.1,a.2.2)else bif Qc a.2.1 Qfr then Qmq F (a.1,a.2.2)else bif Qc a.2.1 Qfz then Qm8 F (a.1,a.2.2)else bif Qc a.2.1 Qge then Qk4 F (a.1,a.2.2)else bif Qc a.2.1 Qgv then Qm9 F (a.1,a.2.2)else bif Qc a.2.1 Qgx then Qj3 F (a.1,a.2.2)else Qkt F a
noncomputable def Zvk(F:Nat):PC:={ats:=tA3,rts:=rA3,code:=c23 F}
theorem Qzf(F:Nat):Qg cx 23 (Zvk F):=(Qg.cases (Zxc F) (Qg.cases (Yrh F) (Qg.cases (Yrd F) (Qg.cases (Ycj F) (Qg.cases (Zs3 F) (Qg.cases (Zro F) (Qg.cases (Yj5 F) (Qg.cases (Znr F) (Ya3 F)))))))))
end Go.Proofs.Tryz
end
