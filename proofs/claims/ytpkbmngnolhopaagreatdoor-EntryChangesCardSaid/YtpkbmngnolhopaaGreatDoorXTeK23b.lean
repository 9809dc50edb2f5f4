/- Functions of the program as functions of data. By program. CheckAct of the program as a function of data: the kinds and the miss,joined. -/
import Derived.Test.YtpkbmngnolhopaaGreatDoorXT3q
import Derived.Test.YtpkbmngnolhopaaGreatDoorXTeK23a
set_option maxRecDepth 100000
set_option linter.all false
set_option linter.unusedVariables false
open List renaming toArray->j
namespace Go.Proofs.Tryz
open Go Go.Sx
noncomputable def Zhh(F:Nat):LK:=lC (Wy F) (lS (PF.Qu (Wh F)) (lS (PF.Qu (W4 F)) (lS (PF.Qu (J3 F)) (lS (PF.Qu (Wo F)) (lX (V1 F) (lX (Kw F) (lX (Ue F) lN)))))))
noncomputable def Ql6(F:Nat)(b:Q9):Option (Int):=
 tw (X:=Int) (Qt.eqv (Qe.val (Ty.int Go.IntKind.i64)::Qa Qe)) (gd (!Qc b.2.1 YJ) (gd (!Qc b.2.1 YF) (gd (!Qc b.2.1 YG) (gd (!Qc b.2.1 YD) (gd (!Qc b.2.1 YE) (gd (!Qc b.2.1 YB) (gd (!Qc b.2.1 YH) (gd (!Qc b.2.1 YI) (tw (X:=Int) (Qt.eqv (Qe.val (Ty.int Go.IntKind.i64)::Qa Qe)) ((Yf F (b.1::Qa Int)).bind fun v22=>some ((13:Int))))))))))))
def Zgx(F:Nat):Zg:=(.two .leaf (.two (.low) .leaf))
theorem Zun(F:Nat)(b:Q9):Z2 cx (Zhh F).x 1000 (Zgx F) f23 (Qs f23) Ky Zp (b)=Ql6 F b:=by kernel_rfl
end Go.Proofs.Tryz
section
namespace Go.Sx
open Go
theorem Qg.cases{cx:Cx}{g:Nat}{ats rts:List Qe}{p:Qt ats->Bool}{c q:Qt ats->Option (Qt rts)}(h1:Qg cx g {ats:=ats,rts:=rts,code:=fun a=>bif p a then c a else none})
  (h2:Qg cx g {ats:=ats,rts:=rts,code:=q}):Qg cx g {ats:=ats,rts:=rts,code:=fun a=>bif p a then c a else q a}:=
 ⟨h1.fn,fun a y hy=>by
  have hy:(bif p a then c a else q a)=some y:=hy;cases e:p a with
  |true=>rw[e]at hy;exact h1.ok a y (by show(bif p a then c a else none)=some y;rw[e];exact hy)
  |false=>rw[e]at hy;exact h2.ok a y hy⟩
end Go.Sx
namespace Go.Proofs.Tryz
open Go Go.Sx
abbrev tA3:List Qe:=Ky
abbrev rA3:List Qe:=Zp
def Qku:ByteArray:={data:=j [99,108,117,98]}
theorem Qdb{k:ByteArray}{c:Int×Yl->Option (Qt rA3)}{lx:Lx}{an:Zg}(hl:lx.Ok cx)(he:∀b,Z2 cx lx 1000 an f23 (Qs f23) tA3 rA3 (b.1,k,b.2)=c b):Qg cx 23 {ats:=tA3,rts:=rA3,code:=fun a=>bif Qc a.2.1 k then c (a.1,a.2.2)else none}:=
 Qg.Yc Yd hl (n:=1000) (an:=an) (fn:=f23) (c:=Qs f23) (by kernel_rfl) (by kernel_rfl) (fun a y h=>by
  obtain⟨d,q,r⟩:=a;have h:(bif Qc q k then c (d,r)else none)=some y:=h;cases e:Qc q k with
  |false=>rw[e]at h;cases h
  |true=>rw[e]at h;obtain rfl:=Qn5 _ _ e;exact(he (d,r)).trans h) (by kernel_rfl)
theorem Yc9(F:Nat):Qg cx 23 {ats:=tA3,rts:=rA3,code:=fun a=>bif Qc a.2.1 Qku then Qks F (a.1,a.2.2)else none}:=Qdb (Zkh F).ok (Ysj F)
def Qmj:ByteArray:={data:=j [97,116,104,108,101,116,101]}
theorem Zwg(F:Nat):Qg cx 23 {ats:=tA3,rts:=rA3,code:=fun a=>bif Qc a.2.1 Qmj then Qj3 F (a.1,a.2.2)else none}:=Qdb (Zfy F).ok (Zn3 F)
def Qjx:ByteArray:={data:=j [108,105,99,101,110,99,101]}
theorem Yoa(F:Nat):Qg cx 23 {ats:=tA3,rts:=rA3,code:=fun a=>bif Qc a.2.1 Qjx then Qlz F (a.1,a.2.2)else none}:=Qdb (Zga F).ok (Zpo F)
def Qjy:ByteArray:={data:=j [116,114,97,110,115,102,101,114]}
theorem Yo2(F:Nat):Qg cx 23 {ats:=tA3,rts:=rA3,code:=fun a=>bif Qc a.2.1 Qjy then Qka F (a.1,a.2.2)else none}:=Qdb (Zgn F).ok (Yb8 F)
def Qjn:ByteArray:={data:=j [101,110,116,101,114]}
theorem Ylw(F:Nat):Qg cx 23 {ats:=tA3,rts:=rA3,code:=fun a=>bif Qc a.2.1 Qjn then Qjh F (a.1,a.2.2)else none}:=Qdb (Zgh F).ok (Yba F)
def Qms:ByteArray:={data:=j [119,105,116,104,100,114,97,119]}
theorem Zsb(F:Nat):Qg cx 23 {ats:=tA3,rts:=rA3,code:=fun a=>bif Qc a.2.1 Qms then Ql4 F (a.1,a.2.2)else none}:=Qdb (Zdj F).ok (Yi2 F)
def Qjr:ByteArray:={data:=j [99,104,101,99,107]}
theorem Yay(F:Nat):Qg cx 23 {ats:=tA3,rts:=rA3,code:=fun a=>bif Qc a.2.1 Qjr then Qjd F (a.1,a.2.2)else none}:=Qdb (Zb4 F).ok (Yjw F)
def Qkj:ByteArray:={data:=j [116,101,97,109]}
theorem Ysk(F:Nat):Qg cx 23 {ats:=tA3,rts:=rA3,code:=fun a=>bif Qc a.2.1 Qkj then Qj0 F (a.1,a.2.2)else none}:=Qdb (Zkv F).ok (Zyz F)
theorem Zvb(F:Nat):Qg cx 23 {ats:=tA3,rts:=rA3,code:=fun a=>Ql6 F a}:=
 Qg.Yc Yd (Zhh F).ok (n:=1000) (an:=Zgx F) (fn:=f23) (c:=Qs f23) (by kernel_rfl) (by kernel_rfl) (fun a y h=>(Zun F a).trans h) (by kernel_rfl)
noncomputable def c23(F:Nat)(a:Q9):Option (Int):=
 bif Qc a.2.1 Qku then Qks F (a.1,a.2.2)else bif Qc a.2.1 Qmj then Qj3 F (a.1,a.2.2)else bif Qc a.2.1 Qjx then Qlz F (a.1,a.2.2)else bif Qc a.2.1 Qjy then Qka F (a.1,a.2.2)else bif Qc a.2.1 Qjn then Qjh F (a.1,a.2.2)else bif Qc a.2.1 Qms then Ql4 F (a.1,a.2.2)else bif Qc a.2.1 Qjr then Qjd F (a.1,a.2.2)else bif Qc a.2.1 Qkj then Qj0 F (a.1,a.2.2)else Ql6 F a
noncomputable def Yen(F:Nat):PC:={ats:=tA3,rts:=rA3,code:=c23 F}
theorem Ziu(F:Nat):Qg cx 23 (Yen F):=(Qg.cases (Yc9 F) (Qg.cases (Zwg F) (Qg.cases (Yoa F) (Qg.cases (Yo2 F) (Qg.cases (Ylw F) (Qg.cases (Zsb F) (Qg.cases (Yay F) (Qg.cases (Ysk F) (Zvb F)))))))))
end Go.Proofs.Tryz
end
