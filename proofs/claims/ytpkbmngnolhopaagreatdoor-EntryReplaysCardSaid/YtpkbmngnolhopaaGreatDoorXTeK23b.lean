/- Functions of the program as functions of data. By program. CheckAct of the program as a function of data: the kinds and the miss,joined. -/
import Derived.Test.YtpkbmngnolhopaaGreatDoorXT3i
import Derived.Test.YtpkbmngnolhopaaGreatDoorXTeK23a
set_option maxRecDepth 100000
set_option linter.all false
set_option linter.unusedVariables false
namespace Go.Proofs.Tryz
open Go Go.Sx
noncomputable def Ze3(F:Nat):LK:=lC (J3 F) (lS (PF.Qs (J0 F)) (lS (PF.Qs (Wi F)) (lS (PF.Qs (Jg F)) (lS (PF.Qs (Jx F)) (lX (Va F) (lX (Vn F) (lX (Kq F) lN)))))))
noncomputable def Qjm(F:Nat)(b:Q6):Option (Int):=
 tw (X:=Int) (Qt.eqv (Qf.val (Ty.int Go.IntKind.i64)::Qa Qf)) (gd (!Qc b.2.1 {data:=List.toArray (99::108::117::98::Qa UInt8)}) (gd (!Qc b.2.1 {data:=List.toArray (97::116::104::108::101::116::101::Qa UInt8)}) (gd (!Qc b.2.1 {data:=List.toArray (108::105::99::101::110::99::101::Qa UInt8)}) (gd (!Qc b.2.1 {data:=List.toArray (116::114::97::110::115::102::101::114::Qa UInt8)}) (gd (!Qc b.2.1 {data:=List.toArray (101::110::116::101::114::Qa UInt8)}) (gd (!Qc b.2.1 {data:=List.toArray (119::105::116::104::100::114::97::119::Qa UInt8)}) (gd (!Qc b.2.1 {data:=List.toArray (99::104::101::99::107::Qa UInt8)}) (gd (!Qc b.2.1 {data:=List.toArray (116::101::97::109::Qa UInt8)}) (tw (X:=Int) (Qt.eqv (Qf.val (Ty.int Go.IntKind.i64)::Qa Qf)) ((Z5 F (b.1::Qa Int)).bind fun(v22:Int)=>some ((13:Int))))))))))))
def Zgx(F:Nat):Q9:=(.two .leaf (.two (.low) .leaf))
theorem Yh8(F:Nat)(b:Q6):Zs cx (Ze3 F).x 1000 (Zgx F) f23 (Qr f23) V3 Zi (b)=Qjm F b:=by kernel_rfl
end Go.Proofs.Tryz
section
namespace Go.Sx
open Go
theorem Qg.cases{cx:Cx}{g:Nat}{ats rts:List Qf}{p:Qt ats→Bool}{c q:Qt ats→Option (Qt rts)}(h1:Qg cx g {ats:=ats,rts:=rts,code:=fun a=>bif p a then c a else none})
  (h2:Qg cx g {ats:=ats,rts:=rts,code:=q}):Qg cx g {ats:=ats,rts:=rts,code:=fun a=>bif p a then c a else q a}:=
 ⟨h1.fn,fun a y hy=>by
  have hy:(bif p a then c a else q a)=some y:=hy;cases e:p a with
  |true=>rw[e]at hy;exact h1.ok a y (by show(bif p a then c a else none)=some y;rw[e];exact hy)
  |false=>rw[e]at hy;exact h2.ok a y hy⟩
end Go.Sx
namespace Go.Proofs.Tryz
open Go Go.Sx
abbrev tA3:List Qf:=V3
abbrev rA3:List Qf:=Zi
def Qj9:ByteArray:={data:=List.toArray [99,108,117,98]}
theorem Qb2{k:ByteArray}{c:Int×Yd→Option (Qt rA3)}{lx:Lx}{an:Q9}(hl:lx.Ok cx)(he:∀b,Zs cx lx 1000 an f23 (Qr f23) tA3 rA3 (b.1,k,b.2)=c b):Qg cx 23 {ats:=tA3,rts:=rA3,code:=fun a=>bif Qc a.2.1 k then c (a.1,a.2.2)else none}:=
 Qg.Z3 Z4 hl (n:=1000) (an:=an) (fn:=f23) (c:=Qr f23) (by kernel_rfl) (by kernel_rfl) (fun a y h=>by
  obtain⟨d,q,r⟩:=a;have h:(bif Qc q k then c (d,r)else none)=some y:=h;cases e:Qc q k with
  |false=>rw[e]at h;cases h
  |true=>rw[e]at h;obtain rfl:=Qos _ _ e;exact(he (d,r)).trans h) (by kernel_rfl)
theorem Yfh(F:Nat):Qg cx 23 {ats:=tA3,rts:=rA3,code:=fun a=>bif Qc a.2.1 Qj9 then Qku F (a.1,a.2.2)else none}:=Qb2 (Zdh F).ok (Zi8 F)
def Qiq:ByteArray:={data:=List.toArray [97,116,104,108,101,116,101]}
theorem Ydy(F:Nat):Qg cx 23 {ats:=tA3,rts:=rA3,code:=fun a=>bif Qc a.2.1 Qiq then Qit F (a.1,a.2.2)else none}:=Qb2 (Zc0 F).ok (Zkz F)
def Qkh:ByteArray:={data:=List.toArray [108,105,99,101,110,99,101]}
theorem Yco(F:Nat):Qg cx 23 {ats:=tA3,rts:=rA3,code:=fun a=>bif Qc a.2.1 Qkh then Qjj F (a.1,a.2.2)else none}:=Qb2 (Zaz F).ok (Zmc F)
def Qke:ByteArray:={data:=List.toArray [116,114,97,110,115,102,101,114]}
theorem Ya0(F:Nat):Qg cx 23 {ats:=tA3,rts:=rA3,code:=fun a=>bif Qc a.2.1 Qke then Qje F (a.1,a.2.2)else none}:=Qb2 (Zfz F).ok (Yge F)
def Qka:ByteArray:={data:=List.toArray [101,110,116,101,114]}
theorem Zsn(F:Nat):Qg cx 23 {ats:=tA3,rts:=rA3,code:=fun a=>bif Qc a.2.1 Qka then Qjd F (a.1,a.2.2)else none}:=Qb2 (Ze7 F).ok (Yb8 F)
def Qju:ByteArray:={data:=List.toArray [119,105,116,104,100,114,97,119]}
theorem Zx3(F:Nat):Qg cx 23 {ats:=tA3,rts:=rA3,code:=fun a=>bif Qc a.2.1 Qju then Qi6 F (a.1,a.2.2)else none}:=Qb2 (Qzt F).ok (Zyc F)
def Qkq:ByteArray:={data:=List.toArray [99,104,101,99,107]}
theorem Zq9(F:Nat):Qg cx 23 {ats:=tA3,rts:=rA3,code:=fun a=>bif Qc a.2.1 Qkq then Qk1 F (a.1,a.2.2)else none}:=Qb2 (Zgt F).ok (Zn5 F)
def Qis:ByteArray:={data:=List.toArray [116,101,97,109]}
theorem Zsd(F:Nat):Qg cx 23 {ats:=tA3,rts:=rA3,code:=fun a=>bif Qc a.2.1 Qis then Qkj F (a.1,a.2.2)else none}:=Qb2 (Za7 F).ok (Zme F)
theorem Zyf(F:Nat):Qg cx 23 {ats:=tA3,rts:=rA3,code:=fun a=>Qjm F a}:=
 Qg.Z3 Z4 (Ze3 F).ok (n:=1000) (an:=Zgx F) (fn:=f23) (c:=Qr f23) (by kernel_rfl) (by kernel_rfl) (fun a y h=>(Yh8 F a).trans h) (by kernel_rfl)
noncomputable def c23(F:Nat)(a:Q6):Option (Int):=
 bif Qc a.2.1 Qj9 then Qku F (a.1,a.2.2)else bif Qc a.2.1 Qiq then Qit F (a.1,a.2.2)else bif Qc a.2.1 Qkh then Qjj F (a.1,a.2.2)else bif Qc a.2.1 Qke then Qje F (a.1,a.2.2)else bif Qc a.2.1 Qka then Qjd F (a.1,a.2.2)else bif Qc a.2.1 Qju then Qi6 F (a.1,a.2.2)else bif Qc a.2.1 Qkq then Qk1 F (a.1,a.2.2)else bif Qc a.2.1 Qis then Qkj F (a.1,a.2.2)else Qjm F a
noncomputable def Zzw(F:Nat):PC:={ats:=tA3,rts:=rA3,code:=c23 F}
theorem Zdd(F:Nat):Qg cx 23 (Zzw F):=(Qg.cases (Yfh F) (Qg.cases (Ydy F) (Qg.cases (Yco F) (Qg.cases (Ya0 F) (Qg.cases (Zsn F) (Qg.cases (Zx3 F) (Qg.cases (Zq9 F) (Qg.cases (Zsd F) (Zyf F)))))))))
end Go.Proofs.Tryz
end
