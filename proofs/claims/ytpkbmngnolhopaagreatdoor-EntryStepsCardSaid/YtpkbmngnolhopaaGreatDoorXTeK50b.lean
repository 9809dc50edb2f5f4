/- Functions of the program as functions of data. By program. A function of an act as a function of data: the kinds,joined. -/
import Derived.Test.YtpkbmngnolhopaaGreatDoorXTeK50
set_option maxRecDepth 100000
set_option linter.all false
set_option linter.unusedVariables false
namespace Go.Proofs.Tryz
open Go Go.Sx
noncomputable def Zks(F:Nat):LK:=lC (Qbs F) (lS (PF.Qq (Xn F)) (lS (PF.Qq (Xm F)) (lS (PF.Qq (Xu F)) (lC (Qba F) lN))))
noncomputable def Qwm(F:Nat)(b:(Zc)×(Qh)×Qz):Option ((Qh)×Int):=
 (c49 F (b.1,b.2.1,b.2.2.1,b.2.2.2.1,b.2.2.2.2.1,b.2.2.2.2.2.1,b.2.2.2.2.2.2.1,b.2.2.2.2.2.2.2.1,b.2.2.2.2.2.2.2.2.1,b.2.2.2.2.2.2.2.2.2.1,b.2.2.2.2.2.2.2.2.2.2.1,b.2.2.2.2.2.2.2.2.2.2.2.1,b.2.2.2.2.2.2.2.2.2.2.2.2.1,b.2.2.2.2.2.2.2.2.2.2.2.2.2)).bind fun v7=>bif !decide (v7=0)then(some (((Qa ByteArray,Qa (Qs),Qa (Qw),Qa (Qi),Qa (Qv)),v7)))else((Ua F b.2.1).bind fun v8=>gd (!Qc b.2.2.2.1 YK) (gd (!Qc b.2.2.2.1 YG) (gd (!Qc b.2.2.2.1 YH) (gd (!Qc b.2.2.2.1 YE) (gd (!Qc b.2.2.2.1 YF) (gd (!Qc b.2.2.2.1 YC) (gd (!Qc b.2.2.2.1 YI) (gd (!Qc b.2.2.2.1 YJ) (none)))))))))
def Zeb(F:Nat):Zb:=(Q5 3 (.two (.low) .leaf))
theorem Zxv(F:Nat)(b:(Zc)×(Qh)×Qz):Zp cx (Zks F).x 1000 (Zeb F) f50 (Qo f50) X8 U2 (b)=Qwm F b:=by kernel_rfl
abbrev K3:List Qe:=X8
abbrev Kk:List Qe:=U2
theorem Qdn{k:ByteArray}{c:(Zc)×(Qh)×Int×Z0->Option (Qt Kk)}{lx:Lx}{an:Zb}(hl:lx.Ok cx)(he:∀b,Zp cx lx 1000 an f50 (Qo f50) K3 Kk (b.1,b.2.1,b.2.2.1,k,b.2.2.2)=c b):Qg cx 50 {ats:=K3,rts:=Kk,code:=fun a=>bif Qc a.2.2.2.1 k then c (a.1,a.2.1,a.2.2.1,a.2.2.2.2)else none}:=
 Qg.Z6 Z7 hl (n:=1000) (an:=an) (fn:=f50) (c:=Qo f50) (by kernel_rfl) (by kernel_rfl) (fun a y h=>by
  obtain⟨m,s,d,q,r⟩:=a;have h:(bif Qc q k then c (m,s,d,r)else none)=some y:=h;cases e:Qc q k with
  |false=>rw[e]at h;cases h
  |true=>rw[e]at h;obtain rfl:=Qmy _ _ e;exact(he (m,s,d,r)).trans h) (by kernel_rfl)
theorem Zqt(F:Nat):Qg cx 50 {ats:=K3,rts:=Kk,code:=fun a=>bif Qc a.2.2.2.1 Qe8 then Qli F (a.1,a.2.1,a.2.2.1,a.2.2.2.2)else none}:=Qdn (Zcz F).ok (Zoz F)
theorem Yh3(F:Nat):Qg cx 50 {ats:=K3,rts:=Kk,code:=fun a=>bif Qc a.2.2.2.1 Qg5 then Qj2 F (a.1,a.2.1,a.2.2.1,a.2.2.2.2)else none}:=Qdn (Zas F).ok (Yex F)
theorem Yl4(F:Nat):Qg cx 50 {ats:=K3,rts:=Kk,code:=fun a=>bif Qc a.2.2.2.1 Qgm then Qmn F (a.1,a.2.1,a.2.2.1,a.2.2.2.2)else none}:=Qdn (Zau F).ok (Zuk F)
theorem Zmy(F:Nat):Qg cx 50 {ats:=K3,rts:=Kk,code:=fun a=>bif Qc a.2.2.2.1 Qfr then Qko F (a.1,a.2.1,a.2.2.1,a.2.2.2.2)else none}:=Qdn (Qz8 F).ok (Ykf F)
theorem Zqk(F:Nat):Qg cx 50 {ats:=K3,rts:=Kk,code:=fun a=>bif Qc a.2.2.2.1 Qfz then Qm0 F (a.1,a.2.1,a.2.2.1,a.2.2.2.2)else none}:=Qdn (Ziz F).ok (Zte F)
theorem Yqm(F:Nat):Qg cx 50 {ats:=K3,rts:=Kk,code:=fun a=>bif Qc a.2.2.2.1 Qge then Qkf F (a.1,a.2.1,a.2.2.1,a.2.2.2.2)else none}:=Qdn (Zab F).ok (Yet F)
theorem Zpq(F:Nat):Qg cx 50 {ats:=K3,rts:=Kk,code:=fun a=>bif Qc a.2.2.2.1 Qgv then Qls F (a.1,a.2.1,a.2.2.1,a.2.2.2.2)else none}:=Qdn (Zlk F).ok (Yln F)
theorem Ymo(F:Nat):Qg cx 50 {ats:=K3,rts:=Kk,code:=fun a=>bif Qc a.2.2.2.1 Qgx then Ql0 F (a.1,a.2.1,a.2.2.1,a.2.2.2.2)else none}:=Qdn (Zat F).ok (Zxr F)
theorem Zzb(F:Nat):Qg cx 50 {ats:=K3,rts:=Kk,code:=fun a=>Qwm F a}:=
 Qg.Z6 Z7 (Zks F).ok (n:=1000) (an:=Zeb F) (fn:=f50) (c:=Qo f50) (by kernel_rfl) (by kernel_rfl) (fun a y h=>(Zxv F a).trans h) (by kernel_rfl)
noncomputable def c50(F:Nat)(a:(Zc)×(Qh)×(Qz)):Option ((Qh)×Int):=
 bif Qc a.2.2.2.1 Qe8 then Qli F (a.1,a.2.1,a.2.2.1,a.2.2.2.2)else bif Qc a.2.2.2.1 Qg5 then Qj2 F (a.1,a.2.1,a.2.2.1,a.2.2.2.2)else bif Qc a.2.2.2.1 Qgm then Qmn F (a.1,a.2.1,a.2.2.1,a.2.2.2.2)else bif Qc a.2.2.2.1 Qfr then Qko F (a.1,a.2.1,a.2.2.1,a.2.2.2.2)else bif Qc a.2.2.2.1 Qfz then Qm0 F (a.1,a.2.1,a.2.2.1,a.2.2.2.2)else bif Qc a.2.2.2.1 Qge then Qkf F (a.1,a.2.1,a.2.2.1,a.2.2.2.2)else bif Qc a.2.2.2.1 Qgv then Qls F (a.1,a.2.1,a.2.2.1,a.2.2.2.2)else bif Qc a.2.2.2.1 Qgx then Ql0 F (a.1,a.2.1,a.2.2.1,a.2.2.2.2)else Qwm F a
noncomputable def Ydy(F:Nat):PC:={ats:=K3,rts:=Kk,code:=c50 F}
theorem Zq3(F:Nat):Qg cx 50 (Ydy F):=(Qg.cases (Zqt F) (Qg.cases (Yh3 F) (Qg.cases (Yl4 F) (Qg.cases (Zmy F) (Qg.cases (Zqk F) (Qg.cases (Yqm F) (Qg.cases (Zpq F) (Qg.cases (Ymo F) (Zzb F)))))))))
end Go.Proofs.Tryz
