/- Functions of the program as functions of data. By program. CheckAct of the program as a function of data: the kinds and the miss,joined. -/
import Derived.Test.YtpkbmngnolhopaaGreatDoorXT3m
import Derived.Test.YtpkbmngnolhopaaGreatDoorXTeK23a
set_option maxRecDepth 100000
set_option linter.all false
set_option linter.unusedVariables false
open List renaming toArray->j
namespace Go.Proofs.Tryz
open Go Go.Sx
noncomputable def Zgu(F:Nat):LK:=lC (Wy F) (lS (PF.Qu (Wl F)) (lS (PF.Qu (Vf F)) (lS (PF.Qu (J2 F)) (lS (PF.Qu (Wo F)) (lX (Kb F) (lX (Ub F) (lX (U9 F) lN)))))))
noncomputable def Qlk(F:Nat)(b:Q4):Option (Int):=
 tw (X:=Int) (Qt.eqv (Qe.val (Ty.int Go.IntKind.i64)::Qa Qe)) (gd (!Qc b.2.1 YJ) (gd (!Qc b.2.1 YF) (gd (!Qc b.2.1 YG) (gd (!Qc b.2.1 YD) (gd (!Qc b.2.1 YE) (gd (!Qc b.2.1 YB) (gd (!Qc b.2.1 YH) (gd (!Qc b.2.1 YI) (tw (X:=Int) (Qt.eqv (Qe.val (Ty.int Go.IntKind.i64)::Qa Qe)) ((Ye F (b.1::Qa Int)).bind fun v22=>some ((13:Int))))))))))))
def Zhn(F:Nat):Zi:=(.two .leaf (.two (.low) .leaf))
theorem Ylb(F:Nat)(b:Q4):Z6 cx (Zgu F).x 1000 (Zhn F) f23 (Qs f23) Ku Zo (b)=Qlk F b:=by kernel_rfl
end Go.Proofs.Tryz
section
namespace Go.Sx
open Go
theorem Qg.cases{cx:Cx}{g:Nat}{ats rts:List Qe}{p:Qt ats->Bool}{c q:Qt ats->Option (Qt rts)}(h1:Qg cx g {ats:=ats,rts:=rts,code:=fun a=>bif p a then c a else none})
  (h2:Qg cx g {ats:=ats,rts:=rts,code:=q}):Qg cx g {ats:=ats,rts:=rts,code:=fun a=>bif p a then c a else q a}:=
 ⟨h1.fn,fun a y hy=>by
  have hy:(bif p a then c a else q a)=some y:=hy;cases e:p a with
  |true=>rw[e]at hy;exact h1.ok a y (by show(bif p a then c a else none)=some y;rw[e];exact hy)
  |false=>rw[e]at hy;exact h2.ok a y hy⟩
end Go.Sx
namespace Go.Proofs.Tryz
open Go Go.Sx
abbrev tA3:List Qe:=Ku
abbrev rA3:List Qe:=Zo
def Qka:ByteArray:={data:=j [99,108,117,98]}
theorem Qee{k:ByteArray}{c:Int×Yn->Option (Qt rA3)}{lx:Lx}{an:Zi}(hl:lx.Ok cx)(he:∀b,Z6 cx lx 1000 an f23 (Qs f23) tA3 rA3 (b.1,k,b.2)=c b):Qg cx 23 {ats:=tA3,rts:=rA3,code:=fun a=>bif Qc a.2.1 k then c (a.1,a.2.2)else none}:=
 Qg.Yg Yh hl (n:=1000) (an:=an) (fn:=f23) (c:=Qs f23) (by kernel_rfl) (by kernel_rfl) (fun a y h=>by
  obtain⟨d,q,r⟩:=a;have h:(bif Qc q k then c (d,r)else none)=some y:=h;cases e:Qc q k with
  |false=>rw[e]at h;cases h
  |true=>rw[e]at h;obtain rfl:=Qqh _ _ e;exact(he (d,r)).trans h) (by kernel_rfl)
theorem Zsi(F:Nat):Qg cx 23 {ats:=tA3,rts:=rA3,code:=fun a=>bif Qc a.2.1 Qka then Qj3 F (a.1,a.2.2)else none}:=Qee (Zcb F).ok (Zvb F)
def Qmb:ByteArray:={data:=j [97,116,104,108,101,116,101]}
theorem Ycq(F:Nat):Qg cx 23 {ats:=tA3,rts:=rA3,code:=fun a=>bif Qc a.2.1 Qmb then Qm1 F (a.1,a.2.2)else none}:=Qee (Zaz F).ok (Yq2 F)
def Qkh:ByteArray:={data:=j [108,105,99,101,110,99,101]}
theorem Yso(F:Nat):Qg cx 23 {ats:=tA3,rts:=rA3,code:=fun a=>bif Qc a.2.1 Qkh then Qlc F (a.1,a.2.2)else none}:=Qee (Zaf F).ok (Zwk F)
def Qlm:ByteArray:={data:=j [116,114,97,110,115,102,101,114]}
theorem Zxt(F:Nat):Qg cx 23 {ats:=tA3,rts:=rA3,code:=fun a=>bif Qc a.2.1 Qlm then Qkd F (a.1,a.2.2)else none}:=Qee (Zgp F).ok (Zpl F)
def Qlf:ByteArray:={data:=j [101,110,116,101,114]}
theorem Yhh(F:Nat):Qg cx 23 {ats:=tA3,rts:=rA3,code:=fun a=>bif Qc a.2.1 Qlf then Qls F (a.1,a.2.2)else none}:=Qee (Zcf F).ok (Zwi F)
def Qmn:ByteArray:={data:=j [119,105,116,104,100,114,97,119]}
theorem Yeo(F:Nat):Qg cx 23 {ats:=tA3,rts:=rA3,code:=fun a=>bif Qc a.2.1 Qmn then Qm5 F (a.1,a.2.2)else none}:=Qee (Zim F).ok (Yq3 F)
def Qlh:ByteArray:={data:=j [99,104,101,99,107]}
theorem Yqu(F:Nat):Qg cx 23 {ats:=tA3,rts:=rA3,code:=fun a=>bif Qc a.2.1 Qlh then Qkb F (a.1,a.2.2)else none}:=Qee (Zfs F).ok (Znf F)
def Qlt:ByteArray:={data:=j [116,101,97,109]}
theorem Zmu(F:Nat):Qg cx 23 {ats:=tA3,rts:=rA3,code:=fun a=>bif Qc a.2.1 Qlt then Qmt F (a.1,a.2.2)else none}:=Qee (Zif F).ok (Zmt F)
theorem Zzf(F:Nat):Qg cx 23 {ats:=tA3,rts:=rA3,code:=fun a=>Qlk F a}:=
 Qg.Yg Yh (Zgu F).ok (n:=1000) (an:=Zhn F) (fn:=f23) (c:=Qs f23) (by kernel_rfl) (by kernel_rfl) (fun a y h=>(Ylb F a).trans h) (by kernel_rfl)
noncomputable def c23(F:Nat)(a:Q4):Option (Int):=
 bif Qc a.2.1 Qka then Qj3 F (a.1,a.2.2)else bif Qc a.2.1 Qmb then Qm1 F (a.1,a.2.2)else bif Qc a.2.1 Qkh then Qlc F (a.1,a.2.2)else bif Qc a.2.1 Qlm then Qkd F (a.1,a.2.2)else bif Qc a.2.1 Qlf then Qls F (a.1,a.2.2)else bif Qc a.2.1 Qmn then Qm5 F (a.1,a.2.2)else bif Qc a.2.1 Qlh then Qkb F (a.1,a.2.2)else bif Qc a.2.1 Qlt then Qmt F (a.1,a.2.2)else Qlk F a
noncomputable def Zox(F:Nat):PC:={ats:=tA3,rts:=rA3,code:=c23 F}
theorem Zc0(F:Nat):Qg cx 23 (Zox F):=(Qg.cases (Zsi F) (Qg.cases (Ycq F) (Qg.cases (Yso F) (Qg.cases (Zxt F) (Qg.cases (Yhh F) (Qg.cases (Yeo F) (Qg.cases (Yqu F) (Qg.cases (Zmu F) (Zzf F)))))))))
end Go.Proofs.Tryz
end
