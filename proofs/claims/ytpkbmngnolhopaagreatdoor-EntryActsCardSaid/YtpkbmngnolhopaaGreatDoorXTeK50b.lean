/- Functions of the program as functions of data. By program. A function of an act as a function of data: the kinds,joined. -/
import Derived.Test.YtpkbmngnolhopaaGreatDoorXTeK50
set_option maxRecDepth 100000
set_option linter.all false
set_option linter.unusedVariables false
namespace Go.Proofs.Tryz
open Go Go.Sx
noncomputable def Qz4(F:Nat):LK:=lC (Qbq F) (lS (PF.Qr (Xt F)) (lS (PF.Qr (Xm F)) (lS (PF.Qr (Xy F)) (lC (Qap F) lN))))
noncomputable def Qmx(F:Nat)(b:(Q7)×(Qh)×Ze):Option ((Qh)×Int):=
 (c49 F (b.1,b.2.1,b.2.2.1,b.2.2.2.1,b.2.2.2.2.1,b.2.2.2.2.2.1,b.2.2.2.2.2.2.1,b.2.2.2.2.2.2.2.1,b.2.2.2.2.2.2.2.2.1,b.2.2.2.2.2.2.2.2.2.1,b.2.2.2.2.2.2.2.2.2.2.1,b.2.2.2.2.2.2.2.2.2.2.2.1,b.2.2.2.2.2.2.2.2.2.2.2.2.1,b.2.2.2.2.2.2.2.2.2.2.2.2.2)).bind fun(v7:Int)=>bif !decide (v7=0)then(some (((Qa ByteArray,Qa (Qt),Qa (Qx),Qa (Qi),Qa (Qw)),v7)))else((K0 F b.2.1).bind fun(v8:Qh)=>gd (!Qc b.2.2.2.1 {data:=List.toArray (99::108::117::98::Qa UInt8)}) (gd (!Qc b.2.2.2.1 {data:=List.toArray (97::116::104::108::101::116::101::Qa UInt8)}) (gd (!Qc b.2.2.2.1 {data:=List.toArray (108::105::99::101::110::99::101::Qa UInt8)}) (gd (!Qc b.2.2.2.1 {data:=List.toArray (116::114::97::110::115::102::101::114::Qa UInt8)}) (gd (!Qc b.2.2.2.1 {data:=List.toArray (101::110::116::101::114::Qa UInt8)}) (gd (!Qc b.2.2.2.1 {data:=List.toArray (119::105::116::104::100::114::97::119::Qa UInt8)}) (gd (!Qc b.2.2.2.1 {data:=List.toArray (99::104::101::99::107::Qa UInt8)}) (gd (!Qc b.2.2.2.1 {data:=List.toArray (116::101::97::109::Qa UInt8)}) (none)))))))))
def Zad(F:Nat):Za:=(Zb 3 (.two (.low) .leaf))
theorem Yju(F:Nat)(b:(Q7)×(Qh)×Ze):Zl cx (Qz4 F).x 1000 (Zad F) f50 (Qs f50) X5 Qaa (b)=Qmx F b:=by kernel_rfl
abbrev K4:List Qd:=X5
abbrev V9:List Qd:=Qaa
theorem Qdw{k:ByteArray}{c:(Q7)×(Qh)×Int×Zy→Option (Qm V9)}{lx:Lx}{an:Za}(hl:lx.Ok cx)(he:∀b,Zl cx lx 1000 an f50 (Qs f50) K4 V9 (b.1,b.2.1,b.2.2.1,k,b.2.2.2)=c b):Qg cx 50 {ats:=K4,rts:=V9,code:=fun a=>bif Qc a.2.2.2.1 k then c (a.1,a.2.1,a.2.2.1,a.2.2.2.2)else none}:=
 Qg.Z0 Z1 hl (n:=1000) (an:=an) (fn:=f50) (c:=Qs f50) (by kernel_rfl) (by kernel_rfl) (fun a y h=>by
  obtain⟨m,s,d,q,r⟩:=a;have h:(bif Qc q k then c (m,s,d,r)else none)=some y:=h;cases e:Qc q k with
  |false=>rw[e]at h;cases h
  |true=>rw[e]at h;obtain rfl:=Qme _ _ e;exact(he (m,s,d,r)).trans h) (by kernel_rfl)
theorem Zps(F:Nat):Qg cx 50 {ats:=K4,rts:=V9,code:=fun a=>bif Qc a.2.2.2.1 Qdm then Qkf F (a.1,a.2.1,a.2.2.1,a.2.2.2.2)else none}:=Qdw (Qy9 F).ok (Ybl F)
theorem Zm3(F:Nat):Qg cx 50 {ats:=K4,rts:=V9,code:=fun a=>bif Qc a.2.2.2.1 Qc2 then Qkt F (a.1,a.2.1,a.2.2.1,a.2.2.2.2)else none}:=Qdw (Zbf F).ok (Zmg F)
theorem Yfl(F:Nat):Qg cx 50 {ats:=K4,rts:=V9,code:=fun a=>bif Qc a.2.2.2.1 Qdn then Qlp F (a.1,a.2.1,a.2.2.1,a.2.2.2.2)else none}:=Qdw (Qz2 F).ok (Yle F)
theorem Yh1(F:Nat):Qg cx 50 {ats:=K4,rts:=V9,code:=fun a=>bif Qc a.2.2.2.1 Qcq then Qlb F (a.1,a.2.1,a.2.2.1,a.2.2.2.2)else none}:=Qdw (Zcp F).ok (Zpc F)
theorem Yd2(F:Nat):Qg cx 50 {ats:=K4,rts:=V9,code:=fun a=>bif Qc a.2.2.2.1 Qda then Qmb F (a.1,a.2.1,a.2.2.1,a.2.2.2.2)else none}:=Qdw (Zcm F).ok (Ya7 F)
theorem Zs4(F:Nat):Qg cx 50 {ats:=K4,rts:=V9,code:=fun a=>bif Qc a.2.2.2.1 Qc7 then Qll F (a.1,a.2.1,a.2.2.1,a.2.2.2.2)else none}:=Qdw (Ziv F).ok (Zxm F)
theorem Ylv(F:Nat):Qg cx 50 {ats:=K4,rts:=V9,code:=fun a=>bif Qc a.2.2.2.1 Qcx then Ql6 F (a.1,a.2.1,a.2.2.1,a.2.2.2.2)else none}:=Qdw (Za1 F).ok (Ylq F)
theorem Zmf(F:Nat):Qg cx 50 {ats:=K4,rts:=V9,code:=fun a=>bif Qc a.2.2.2.1 Qdr then Ql3 F (a.1,a.2.1,a.2.2.1,a.2.2.2.2)else none}:=Qdw (Zfg F).ok (Zzc F)
theorem Ygb(F:Nat):Qg cx 50 {ats:=K4,rts:=V9,code:=fun a=>Qmx F a}:=
 Qg.Z0 Z1 (Qz4 F).ok (n:=1000) (an:=Zad F) (fn:=f50) (c:=Qs f50) (by kernel_rfl) (by kernel_rfl) (fun a y h=>(Yju F a).trans h) (by kernel_rfl)
noncomputable def c50(F:Nat)(a:(Q7)×(Qh)×(Ze)):Option ((Qh)×Int):=
 bif Qc a.2.2.2.1 Qdm then Qkf F (a.1,a.2.1,a.2.2.1,a.2.2.2.2)else bif Qc a.2.2.2.1 Qc2 then Qkt F (a.1,a.2.1,a.2.2.1,a.2.2.2.2)else bif Qc a.2.2.2.1 Qdn then Qlp F (a.1,a.2.1,a.2.2.1,a.2.2.2.2)else bif Qc a.2.2.2.1 Qcq then Qlb F (a.1,a.2.1,a.2.2.1,a.2.2.2.2)else bif Qc a.2.2.2.1 Qda then Qmb F (a.1,a.2.1,a.2.2.1,a.2.2.2.2)else bif Qc a.2.2.2.1 Qc7 then Qll F (a.1,a.2.1,a.2.2.1,a.2.2.2.2)else bif Qc a.2.2.2.1 Qcx then Ql6 F (a.1,a.2.1,a.2.2.1,a.2.2.2.2)else bif Qc a.2.2.2.1 Qdr then Ql3 F (a.1,a.2.1,a.2.2.1,a.2.2.2.2)else Qmx F a
noncomputable def Yom(F:Nat):PC:={ats:=K4,rts:=V9,code:=c50 F}
theorem Ya2(F:Nat):Qg cx 50 (Yom F):=(Qg.cases (Zps F) (Qg.cases (Zm3 F) (Qg.cases (Yfl F) (Qg.cases (Yh1 F) (Qg.cases (Yd2 F) (Qg.cases (Zs4 F) (Qg.cases (Ylv F) (Qg.cases (Zmf F) (Ygb F)))))))))
end Go.Proofs.Tryz
