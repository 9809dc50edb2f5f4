/- Functions of the program as functions of data. By program. A function of an act as a function of data: the kinds,joined. -/
import Derived.Test.YtpkbmngnolhopaaGreatDoorXTeK50
set_option maxRecDepth 100000
set_option linter.all false
set_option linter.unusedVariables false
namespace Go.Proofs.Tryz
open Go Go.Sx
noncomputable def Zfe(F:Nat):LK:=lC (Qa2 F) (lS (PF.Qo (Xb F)) (lS (PF.Qo (Y8 F)) (lS (PF.Qo (Xg F)) (lC (Qah F) lN))))
noncomputable def Qsk(F:Nat)(b:(Za)×(Qk)×Z4):Option ((Qk)×Int):=
 (c49 F (b.1,b.2.1,b.2.2.1,b.2.2.2.1,b.2.2.2.2.1,b.2.2.2.2.2.1,b.2.2.2.2.2.2.1,b.2.2.2.2.2.2.2.1,b.2.2.2.2.2.2.2.2.1,b.2.2.2.2.2.2.2.2.2.1,b.2.2.2.2.2.2.2.2.2.2.1,b.2.2.2.2.2.2.2.2.2.2.2.1,b.2.2.2.2.2.2.2.2.2.2.2.2.1,b.2.2.2.2.2.2.2.2.2.2.2.2.2)).bind fun(v7:Int)=>bif !decide (v7=0)then(some (((Qa ByteArray,Qa (Qu),Qa (Qz),Qa (Qh),Qa (Qy)),v7)))else((Vv F b.2.1).bind fun(v8:Qk)=>gd (!Qc b.2.2.2.1 {data:=List.toArray (99::108::117::98::Qa UInt8)}) (gd (!Qc b.2.2.2.1 {data:=List.toArray (97::116::104::108::101::116::101::Qa UInt8)}) (gd (!Qc b.2.2.2.1 {data:=List.toArray (108::105::99::101::110::99::101::Qa UInt8)}) (gd (!Qc b.2.2.2.1 {data:=List.toArray (116::114::97::110::115::102::101::114::Qa UInt8)}) (gd (!Qc b.2.2.2.1 {data:=List.toArray (101::110::116::101::114::Qa UInt8)}) (gd (!Qc b.2.2.2.1 {data:=List.toArray (119::105::116::104::100::114::97::119::Qa UInt8)}) (gd (!Qc b.2.2.2.1 {data:=List.toArray (99::104::101::99::107::Qa UInt8)}) (gd (!Qc b.2.2.2.1 {data:=List.toArray (116::101::97::109::Qa UInt8)}) (none)))))))))
def Zfd(F:Nat):Q7:=(Q8 3 (.two (.low) .leaf))
theorem Yhh(F:Nat)(b:(Za)×(Qk)×Z4):Zm cx (Zfe F).x 1000 (Zfd F) f50 (Qq f50) Xv Kk (b)=Qsk F b:=by kernel_rfl
abbrev Vn:List Qf:=Xv
abbrev W3:List Qf:=Kk
theorem Qb8{k:ByteArray}{c:(Za)×(Qk)×Int×Z1→Option (Qs W3)}{lx:Lx}{an:Q7}(hl:lx.Ok cx)(he:∀b,Zm cx lx 1000 an f50 (Qq f50) Vn W3 (b.1,b.2.1,b.2.2.1,k,b.2.2.2)=c b):Qg cx 50 {ats:=Vn,rts:=W3,code:=fun a=>bif Qc a.2.2.2.1 k then c (a.1,a.2.1,a.2.2.1,a.2.2.2.2)else none}:=
 Qg.Zr Zs hl (n:=1000) (an:=an) (fn:=f50) (c:=Qq f50) (by kernel_rfl) (by kernel_rfl) (fun a y h=>by
  obtain⟨m,s,d,q,r⟩:=a;have h:(bif Qc q k then c (m,s,d,r)else none)=some y:=h;cases e:Qc q k with
  |false=>rw[e]at h;cases h
  |true=>rw[e]at h;obtain rfl:=Qmy _ _ e;exact(he (m,s,d,r)).trans h) (by kernel_rfl)
theorem Zrs(F:Nat):Qg cx 50 {ats:=Vn,rts:=W3,code:=fun a=>bif Qc a.2.2.2.1 Qgp then Qtd F (a.1,a.2.1,a.2.2.1,a.2.2.2.2)else none}:=Qb8 (Zdw F).ok (Ztx F)
theorem Zyl(F:Nat):Qg cx 50 {ats:=Vn,rts:=W3,code:=fun a=>bif Qc a.2.2.2.1 Qe7 then Quz F (a.1,a.2.1,a.2.2.1,a.2.2.2.2)else none}:=Qb8 (Qw7 F).ok (Yff F)
theorem Ybr(F:Nat):Qg cx 50 {ats:=Vn,rts:=W3,code:=fun a=>bif Qc a.2.2.2.1 Qgo then Qqg F (a.1,a.2.1,a.2.2.1,a.2.2.2.2)else none}:=Qb8 (Zb2 F).ok (Zq7 F)
theorem Ya3(F:Nat):Qg cx 50 {ats:=Vn,rts:=W3,code:=fun a=>bif Qc a.2.2.2.1 Qep then Qra F (a.1,a.2.1,a.2.2.1,a.2.2.2.2)else none}:=Qb8 (Qz8 F).ok (Yix F)
theorem Zy1(F:Nat):Qg cx 50 {ats:=Vn,rts:=W3,code:=fun a=>bif Qc a.2.2.2.1 Qfl then Qtt F (a.1,a.2.1,a.2.2.1,a.2.2.2.2)else none}:=Qb8 (Qya F).ok (Ygx F)
theorem Zp5(F:Nat):Qg cx 50 {ats:=Vn,rts:=W3,code:=fun a=>bif Qc a.2.2.2.1 Qen then Qiw F (a.1,a.2.1,a.2.2.1,a.2.2.2.2)else none}:=Qb8 (Zdu F).ok (Ycw F)
theorem Zqm(F:Nat):Qg cx 50 {ats:=Vn,rts:=W3,code:=fun a=>bif Qc a.2.2.2.1 Qgm then Qqz F (a.1,a.2.1,a.2.2.1,a.2.2.2.2)else none}:=Qb8 (Za2 F).ok (Yhl F)
theorem Yc6(F:Nat):Qg cx 50 {ats:=Vn,rts:=W3,code:=fun a=>bif Qc a.2.2.2.1 Qf3 then Qqh F (a.1,a.2.1,a.2.2.1,a.2.2.2.2)else none}:=Qb8 (Qys F).ok (Yaw F)
theorem Zl6(F:Nat):Qg cx 50 {ats:=Vn,rts:=W3,code:=fun a=>Qsk F a}:=
 Qg.Zr Zs (Zfe F).ok (n:=1000) (an:=Zfd F) (fn:=f50) (c:=Qq f50) (by kernel_rfl) (by kernel_rfl) (fun a y h=>(Yhh F a).trans h) (by kernel_rfl)
noncomputable def c50(F:Nat)(a:(Za)×(Qk)×(Z4)):Option ((Qk)×Int):=
 bif Qc a.2.2.2.1 Qgp then Qtd F (a.1,a.2.1,a.2.2.1,a.2.2.2.2)else bif Qc a.2.2.2.1 Qe7 then Quz F (a.1,a.2.1,a.2.2.1,a.2.2.2.2)else bif Qc a.2.2.2.1 Qgo then Qqg F (a.1,a.2.1,a.2.2.1,a.2.2.2.2)else bif Qc a.2.2.2.1 Qep then Qra F (a.1,a.2.1,a.2.2.1,a.2.2.2.2)else bif Qc a.2.2.2.1 Qfl then Qtt F (a.1,a.2.1,a.2.2.1,a.2.2.2.2)else bif Qc a.2.2.2.1 Qen then Qiw F (a.1,a.2.1,a.2.2.1,a.2.2.2.2)else bif Qc a.2.2.2.1 Qgm then Qqz F (a.1,a.2.1,a.2.2.1,a.2.2.2.2)else bif Qc a.2.2.2.1 Qf3 then Qqh F (a.1,a.2.1,a.2.2.1,a.2.2.2.2)else Qsk F a
noncomputable def Zmh(F:Nat):PC:={ats:=Vn,rts:=W3,code:=c50 F}
theorem Yaq(F:Nat):Qg cx 50 (Zmh F):=(Qg.cases (Zrs F) (Qg.cases (Zyl F) (Qg.cases (Ybr F) (Qg.cases (Ya3 F) (Qg.cases (Zy1 F) (Qg.cases (Zp5 F) (Qg.cases (Zqm F) (Qg.cases (Yc6 F) (Zl6 F)))))))))
end Go.Proofs.Tryz
