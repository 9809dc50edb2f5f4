/- Functions of the program as functions of data. By program. CheckAct of the program as a function of data: the kinds and the miss,joined. -/
import Derived.Test.YtpkbmngnolhopaaGreatDoorXT3i
import Derived.Test.YtpkbmngnolhopaaGreatDoorXTeK23a
set_option maxRecDepth 100000
set_option linter.all false
set_option linter.unusedVariables false
namespace Go.Proofs.Tryz
open Go Go.Sx
noncomputable def Zay(F:Nat):LK:=lC (Wn F) (lS (PF.Qr (Xt F)) (lS (PF.Qr (Wy F)) (lS (PF.Qr (Xm F)) (lS (PF.Qr (Xy F)) (lX (Ka F) (lX (Kt F) (lX (Ur F) lN)))))))
noncomputable def Qjk(F:Nat)(b:Ze):Option (Int):=
 tw (X:=Int) (Qm.eqv (Qd.val (Ty.int Go.IntKind.i64)::Qa Qd)) (gd (!Qc b.2.1 {data:=List.toArray (99::108::117::98::Qa UInt8)}) (gd (!Qc b.2.1 {data:=List.toArray (97::116::104::108::101::116::101::Qa UInt8)}) (gd (!Qc b.2.1 {data:=List.toArray (108::105::99::101::110::99::101::Qa UInt8)}) (gd (!Qc b.2.1 {data:=List.toArray (116::114::97::110::115::102::101::114::Qa UInt8)}) (gd (!Qc b.2.1 {data:=List.toArray (101::110::116::101::114::Qa UInt8)}) (gd (!Qc b.2.1 {data:=List.toArray (119::105::116::104::100::114::97::119::Qa UInt8)}) (gd (!Qc b.2.1 {data:=List.toArray (99::104::101::99::107::Qa UInt8)}) (gd (!Qc b.2.1 {data:=List.toArray (116::101::97::109::Qa UInt8)}) (tw (X:=Int) (Qm.eqv (Qd.val (Ty.int Go.IntKind.i64)::Qa Qd)) ((Z6 F (b.1::Qa Int)).bind fun(v22:Int)=>some ((13:Int))))))))))))
def Zet(F:Nat):Za:=(.two .leaf (.two (.low) .leaf))
theorem Zkv(F:Nat)(b:Ze):Zl cx (Zay F).x 1000 (Zet F) f23 (Qs f23) Kp Zg (b)=Qjk F b:=by kernel_rfl
end Go.Proofs.Tryz
section
namespace Go.Sx
open Go
theorem Qg.cases{cx:Cx}{g:Nat}{ats rts:List Qd}{p:Qm ats→Bool}{c q:Qm ats→Option (Qm rts)}(h1:Qg cx g {ats:=ats,rts:=rts,code:=fun a=>bif p a then c a else none})
  (h2:Qg cx g {ats:=ats,rts:=rts,code:=q}):Qg cx g {ats:=ats,rts:=rts,code:=fun a=>bif p a then c a else q a}:=
 ⟨h1.fn,fun a y hy=>by
  have hy:(bif p a then c a else q a)=some y:=hy;cases e:p a with
  |true=>rw[e]at hy;exact h1.ok a y (by show(bif p a then c a else none)=some y;rw[e];exact hy)
  |false=>rw[e]at hy;exact h2.ok a y hy⟩
end Go.Sx
namespace Go.Proofs.Tryz
open Go Go.Sx
abbrev tA3:List Qd:=Kp
abbrev rA3:List Qd:=Zg
def Qdm:ByteArray:={data:=List.toArray [99,108,117,98]}
theorem Qdf{k:ByteArray}{c:Int×Zy→Option (Qm rA3)}{lx:Lx}{an:Za}(hl:lx.Ok cx)(he:∀b,Zl cx lx 1000 an f23 (Qs f23) tA3 rA3 (b.1,k,b.2)=c b):Qg cx 23 {ats:=tA3,rts:=rA3,code:=fun a=>bif Qc a.2.1 k then c (a.1,a.2.2)else none}:=
 Qg.Z0 Z1 hl (n:=1000) (an:=an) (fn:=f23) (c:=Qs f23) (by kernel_rfl) (by kernel_rfl) (fun a y h=>by
  obtain⟨d,q,r⟩:=a;have h:(bif Qc q k then c (d,r)else none)=some y:=h;cases e:Qc q k with
  |false=>rw[e]at h;cases h
  |true=>rw[e]at h;obtain rfl:=Qme _ _ e;exact(he (d,r)).trans h) (by kernel_rfl)
theorem Yi2(F:Nat):Qg cx 23 {ats:=tA3,rts:=rA3,code:=fun a=>bif Qc a.2.1 Qdm then Qkq F (a.1,a.2.2)else none}:=Qdf (Zg8 F).ok (Zqr F)
def Qc2:ByteArray:={data:=List.toArray [97,116,104,108,101,116,101]}
theorem Yij(F:Nat):Qg cx 23 {ats:=tA3,rts:=rA3,code:=fun a=>bif Qc a.2.1 Qc2 then Qko F (a.1,a.2.2)else none}:=Qdf (Zfu F).ok (Ybv F)
def Qdn:ByteArray:={data:=List.toArray [108,105,99,101,110,99,101]}
theorem Ydu(F:Nat):Qg cx 23 {ats:=tA3,rts:=rA3,code:=fun a=>bif Qc a.2.1 Qdn then Qk1 F (a.1,a.2.2)else none}:=Qdf (Za5 F).ok (Yli F)
def Qcq:ByteArray:={data:=List.toArray [116,114,97,110,115,102,101,114]}
theorem Yao(F:Nat):Qg cx 23 {ats:=tA3,rts:=rA3,code:=fun a=>bif Qc a.2.1 Qcq then Qmj F (a.1,a.2.2)else none}:=Qdf (Zat F).ok (Zzm F)
def Qda:ByteArray:={data:=List.toArray [101,110,116,101,114]}
theorem Zl4(F:Nat):Qg cx 23 {ats:=tA3,rts:=rA3,code:=fun a=>bif Qc a.2.1 Qda then Qlj F (a.1,a.2.2)else none}:=Qdf (Zgo F).ok (Zkw F)
def Qc7:ByteArray:={data:=List.toArray [119,105,116,104,100,114,97,119]}
theorem Zzf(F:Nat):Qg cx 23 {ats:=tA3,rts:=rA3,code:=fun a=>bif Qc a.2.1 Qc7 then Qka F (a.1,a.2.2)else none}:=Qdf (Qyw F).ok (Zl7 F)
def Qcx:ByteArray:={data:=List.toArray [99,104,101,99,107]}
theorem Zpw(F:Nat):Qg cx 23 {ats:=tA3,rts:=rA3,code:=fun a=>bif Qc a.2.1 Qcx then Qjs F (a.1,a.2.2)else none}:=Qdf (Qzf F).ok (Zz1 F)
def Qdr:ByteArray:={data:=List.toArray [116,101,97,109]}
theorem Zt6(F:Nat):Qg cx 23 {ats:=tA3,rts:=rA3,code:=fun a=>bif Qc a.2.1 Qdr then Qjv F (a.1,a.2.2)else none}:=Qdf (Zf1 F).ok (Zp8 F)
theorem Yaa(F:Nat):Qg cx 23 {ats:=tA3,rts:=rA3,code:=fun a=>Qjk F a}:=
 Qg.Z0 Z1 (Zay F).ok (n:=1000) (an:=Zet F) (fn:=f23) (c:=Qs f23) (by kernel_rfl) (by kernel_rfl) (fun a y h=>(Zkv F a).trans h) (by kernel_rfl)
noncomputable def c23(F:Nat)(a:Ze):Option (Int):=
 bif Qc a.2.1 Qdm then Qkq F (a.1,a.2.2)else bif Qc a.2.1 Qc2 then Qko F (a.1,a.2.2)else bif Qc a.2.1 Qdn then Qk1 F (a.1,a.2.2)else bif Qc a.2.1 Qcq then Qmj F (a.1,a.2.2)else bif Qc a.2.1 Qda then Qlj F (a.1,a.2.2)else bif Qc a.2.1 Qc7 then Qka F (a.1,a.2.2)else bif Qc a.2.1 Qcx then Qjs F (a.1,a.2.2)else bif Qc a.2.1 Qdr then Qjv F (a.1,a.2.2)else Qjk F a
noncomputable def Ynv(F:Nat):PC:={ats:=tA3,rts:=rA3,code:=c23 F}
theorem Ye4(F:Nat):Qg cx 23 (Ynv F):=(Qg.cases (Yi2 F) (Qg.cases (Yij F) (Qg.cases (Ydu F) (Qg.cases (Yao F) (Qg.cases (Zl4 F) (Qg.cases (Zzf F) (Qg.cases (Zpw F) (Qg.cases (Zt6 F) (Yaa F)))))))))
end Go.Proofs.Tryz
end
