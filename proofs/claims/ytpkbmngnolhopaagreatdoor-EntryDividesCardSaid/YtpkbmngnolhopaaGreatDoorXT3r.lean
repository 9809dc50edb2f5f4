/- Plain law: sorting and leaving out. Two texts in one. And further parts. -/
import Derived.Test.YtpkbmngnolhopaaGreatDoorXT3i
import Derived.Test.YtpkbmngnolhopaaGreatDoorXTeB2
import Derived.Test.YtpkbmngnolhopaaGreatDoorXTeB3
import Derived.Test.YtpkbmngnolhopaaGreatDoorXT3g
import Derived.Test.YtpkbmngnolhopaaGreatDoorXSxQi
set_option linter.unusedVariables false
set_option linter.unusedSimpArgs false
set_option linter.all false
set_option maxRecDepth 1000000
namespace Go.Proofs.Tryz
open Go Go.Sx
theorem Zj9{x a b:Qm}(h1:ltE x a=true)(h2:ltE b a=false):ltE x b=true:=by unfold ltE at*;simp only[Bool.or_eq_true,Bool.and_eq_true,decide_eq_true_eq,Bool.or_eq_false_iff,Bool.and_eq_false_iff,decide_eq_false_iff_not]at*;omega
theorem Zvu{x y:Qm}(h:ltE x y=true):ltE y x=false:=by unfold ltE at*;simp only[Bool.or_eq_true,Bool.and_eq_true,decide_eq_true_eq,Bool.or_eq_false_iff,Bool.and_eq_false_iff,decide_eq_false_iff_not]at*;omega
theorem Zr3{x y z:Qm}(h:ltE x y=true)(h2:ltE y z=true):ltE x z=true:=by unfold ltE at*;simp only[Bool.or_eq_true,Bool.and_eq_true,decide_eq_true_eq]at*;omega
def Ks(l:List Qm):Prop:=l.Pairwise fun a b=>ltE b a=false
theorem Qst(x:Qm)(Q R:List Qm):∀n,n≤Q.length→Xq x (Q++R) n=Xq x Q n
 |0,_=>rfl
 |n+1,h=>by
  have e:(Q++R).getD n dE=Q.getD n dE:=by simp only[List.getD_eq_getElem?_getD];rw[List.getElem?_append_left (by omega)]
  simp only[Xq,e,Qst x Q R n (by omega)]
theorem Qvn{α:Type}(l:List α):l=[]∨∃q z,l=q++[z]:=by
 rcases l.eq_nil_or_concat with h|⟨q,z,h⟩
 ·exact .inl h
 ·exact .inr ⟨q,z,by simpa using h⟩
theorem Qsz(x:Qm):∀(n:Nat) (P:List Qm),P.length=n→Ks P→P.take (Xq x P n)=P.filter (fun y=>!ltE x y)∧P.drop (Xq x P n)=P.filter fun y=>ltE x y
 |0,P,h,_=>by obtain rfl:=List.eq_nil_of_length_eq_zero h;exact⟨rfl,rfl⟩
 |n+1,P,h,hs=>by
  rcases Qvn P with rfl|⟨Q,z,rfl⟩
  ·simp at h
  ·have hQ:Q.length=n:=by simpa using h
   unfold Ks at hs;rw[List.pairwise_append]at hs;obtain⟨s1,-,s2⟩:=hs;have e:(Q++[z]).getD n dE=z:=by simp only[List.getD_eq_getElem?_getD];rw[List.getElem?_append_right (by omega),hQ];simp
   have hp:Xq x (Q++[z]) (n+1)=if ltE x z=true then Xq x Q n else n+1:=by simp only[Xq,e,Qst x Q [z] n (by omega)]
   rw[hp];cases hz:ltE x z with
   |true=>obtain⟨i1,i2⟩:=Qsz x n Q hQ s1;have hle:=Qxb x Q n;simp only[if_true];rw[List.take_append_of_le_length (by omega),List.drop_append_of_le_length (by omega),i1,i2];simp[hz]
   |false=>
    have all:∀y∈Q,ltE x y=false:=fun y hy=>by
     cases hxy:ltE x y with
     |false=>rfl
     |true=>rw[Zj9 hxy (s2 y hy z (by simp))]at hz;cases hz
    simp only[Bool.false_eq_true,if_false];rw[List.take_of_length_le (by simp;omega),List.drop_of_length_le (by simp;omega)];constructor
    ·rw[List.filter_eq_self.2];intro y hy;rcases List.mem_append.1 hy with hy|hy
     ·simp[all y hy]
     ·obtain rfl:=List.mem_singleton.1 hy;simp[hz]
    ·rw[List.filter_eq_nil_iff.2];intro y hy;rcases List.mem_append.1 hy with hy|hy
     ·simp[all y hy]
     ·obtain rfl:=List.mem_singleton.1 hy;simp[hz]
theorem Zdl{P:List Qm}(hs:Ks P)(x:Qm):Wr P x=P.filter (fun y=>!ltE x y)++x::P.filter fun y=>ltE x y:=by obtain⟨h1,h2⟩:=Qsz x P.length P rfl hs;unfold Wr;rw[h1,h2]
theorem Zgj{P:List Qm}(hs:Ks P)(x:Qm):Ks (Wr P x):=by
 rw[Zdl hs];unfold Ks;rw[List.pairwise_append];refine⟨List.Pairwise.filter _ hs,?_,?_⟩
 ·rw[List.pairwise_cons];refine⟨fun b hb=>?_,List.Pairwise.filter _ hs⟩;exact Zvu (List.mem_filter.1 hb).2
 ·intro a ha b hb;have h1:ltE x a=false:=by simpa using(List.mem_filter.1 ha).2
  rcases List.mem_cons.1 hb with rfl|hb
  ·exact h1
  ·have h2:=(List.mem_filter.1 hb).2;cases h3:ltE b a with
   |false=>rfl
   |true=>rw[Zr3 h2 h3]at h1;cases h1
theorem Zrv(l:List Qm):Ks (Zw l):=by
 have h:∀(n:Nat) (l:List Qm),l.length=n→Ks (Zw l):=by
  intro n;induction n with
  |zero=>intro l h;obtain rfl:=List.eq_nil_of_length_eq_zero h;exact List.Pairwise.nil
  |succ n ih=>
   intro l h;rcases Qvn l with rfl|⟨q,z,rfl⟩
   ·simp at h
   ·rw[Qyc];exact Zgj (ih q (by simpa using h)) z
 exact h _ l rfl
end Go.Proofs.Tryz
section

end
section
namespace Go.Proofs.Tryz
open Go Go.Sx
noncomputable section
end
end Go.Proofs.Tryz
end
section
namespace Go.Proofs.Tryz
open Go Go.Sx
noncomputable section
end
end Go.Proofs.Tryz
end
section
namespace Go.Proofs.Tryz
open Go Go.Sx
end Go.Proofs.Tryz
end
namespace Go.Proofs.Tryz
open Go Go.Sx
theorem Za3{l:List ByteArray}{x:ByteArray}:hasB l x=true↔x∈l:=by
 unfold hasB;rw[List.any_eq_true];constructor
 ·rintro ⟨y,hy,e⟩
  rw[Jl.1 e]at hy;exact hy
 ·intro h;exact⟨x,h,X2 x⟩
end Go.Proofs.Tryz
section
namespace Go.Proofs.Tryz
open Go Go.Sx
end Go.Proofs.Tryz
end
section
namespace Go.Proofs.Tryz
open Go Go.Sx
noncomputable section
end
end Go.Proofs.Tryz
end
section
namespace Go.Proofs.Tryz
open Go Go.Sx
end Go.Proofs.Tryz
end
section
namespace Go.Sx
open Go
theorem Qg.cases{cx:Cx}{g:Nat}{ats rts:List Qf}{p:Qw ats→Bool}{c q:Qw ats→Option (Qw rts)}(h1:Qg cx g {ats:=ats,rts:=rts,code:=fun a=>bif p a then c a else none})
  (h2:Qg cx g {ats:=ats,rts:=rts,code:=q}):Qg cx g {ats:=ats,rts:=rts,code:=fun a=>bif p a then c a else q a}:=
 ⟨h1.fn,fun a y hy=>by
  have hy:(bif p a then c a else q a)=some y:=hy;cases e:p a with
  |true=>rw[e]at hy;exact h1.ok a y (by show(bif p a then c a else none)=some y;rw[e];exact hy)
  |false=>rw[e]at hy;exact h2.ok a y hy⟩
end Go.Sx
namespace Go.Proofs.Tryz
open Go Go.Sx
end Go.Proofs.Tryz
end
section
namespace Go.Proofs.Tryz
open Go Go.Sx
end Go.Proofs.Tryz
end
section
namespace Go.Proofs.Tryz
open Go Go.Sx
end Go.Proofs.Tryz
end
namespace Go.Proofs.Tryz
open Go Go.Sx
theorem Qqf{m:Mt}{s:Qy}(hv:stE m s=0):mtE m=0:=by
 by_cases h:mtE m=0
 ·exact h
 ·rw[stE,if_neg h]at hv;exact absurd hv h
noncomputable def Zyi(F:Nat):LK:=lN
noncomputable def c81(F:Nat)(a:PUnit):Option (Zd):=
 some (((8000:Int),(7900:Int),(7990:Int),(2:Int),({data:=List.toArray (115::112::114::105::110::116::Qb UInt8)},{data:=List.toArray (116::105::109::101::Qb UInt8)},(ByteArray.mk (List.toArray (Qb UInt8))),(16:Int),(40:Int),(2:Int),(1:Int),{data:=List.toArray (116::105::109::101::Qb UInt8)},(120000:Int),(ByteArray.mk (List.toArray (Qb UInt8))),(0:Int))::({data:=List.toArray (106::117::109::112::Qb UInt8)},{data:=List.toArray (108::101::110::103::116::104::Qb UInt8)},(ByteArray.mk (List.toArray (Qb UInt8))),(16:Int),(40:Int),(8:Int),(2:Int),{data:=List.toArray (110::111::110::101::Qb UInt8)},(0:Int),{data:=List.toArray (78::77::Qb UInt8)},(0:Int))::({data:=List.toArray (114::101::108::97::121::Qb UInt8)},{data:=List.toArray (116::105::109::101::Qb UInt8)},(ByteArray.mk (List.toArray (Qb UInt8))),(16:Int),(40:Int),(8:Int),(1:Int),{data:=List.toArray (110::111::110::101::Qb UInt8)},(0:Int),{data:=List.toArray (78::77::Qb UInt8)},(2:Int))::Qb (Z6)))
noncomputable def Qvs(F:Nat):PC:={ats:=[],rts:=[.agg Yx],code:=c81 F}
theorem Zrb(F:Nat):Qg cx 81 (Qvs F):=qE (Zyi F) .leaf f81 (by kernel_rfl) fun a=>by kernel_rfl
noncomputable def Zwo(F:Nat):LK:=lN
noncomputable def c83(F:Nat)(a:Int):Option (ByteArray×Int×ByteArray):=
 some (({data:=List.toArray (116::105::109::101::Qb UInt8)},w64 ((100:Int)*a),(ByteArray.mk (List.toArray (Qb UInt8)))))
noncomputable def Qr1(F:Nat):PC:={ats:=Zn,rts:=[.agg kt6],code:=c83 F}
theorem Qv2(F:Nat):Qg cx 83 (Qr1 F):=qE (Zwo F) .leaf f83 (by kernel_rfl) fun a=>by kernel_rfl
def bs(l:List UInt8):ByteArray:=⟨⟨l⟩⟩
def opn:Zd:=(8000,7900,7990,2,[(bs [115,112,114,105,110,116],bs [116,105,109,101],bs [],16,40,2,1,bs [116,105,109,101],120000,bs [],0),(bs [106,117,109,112],bs [108,101,110,103,116,104],bs [],16,40,8,2,bs [110,111,110,101],0,bs [78,77],0),(bs [114,101,108,97,121],bs [116,105,109,101],bs [],16,40,8,1,bs [110,111,110,101],0,bs [78,77],2)])
def Qc8:List (Ye):=[(7000,bs [99,108,117,98],bs [],bs [65],bs [],bs [],0,0,bs [],0,bs [],[]),(7000,bs [99,108,117,98],bs [],bs [66],bs [],bs [],0,0,bs [],0,bs [],[]),(7000,bs [97,116,104,108,101,116,101],bs [97,110,110],bs [65],bs [119,111,109,101,110],bs [],1000,0,bs [],0,bs [],[]),(7000,bs [108,105,99,101,110,99,101],bs [97,110,110],bs [],bs [],bs [],7000,9000,bs [],0,bs [],[]),(7000,bs [97,116,104,108,101,116,101],bs [97,109,121],bs [65],bs [119,111,109,101,110],bs [],1000,0,bs [],0,bs [],[]),(7000,bs [108,105,99,101,110,99,101],bs [97,109,121],bs [],bs [],bs [],7000,9000,bs [],0,bs [],[]),(7000,bs [97,116,104,108,101,116,101],bs [98,101,97],bs [66],bs [119,111,109,101,110],bs [],1000,0,bs [],0,bs [],[]),(7000,bs [108,105,99,101,110,99,101],bs [98,101,97],bs [],bs [],bs [],7000,9000,bs [],0,bs [],[]),(7950,bs [101,110,116,101,114],bs [97,110,110],bs [],bs [],bs [115,112,114,105,110,116],0,0,bs [116,105,109,101],115000,bs [],[]),(7950,bs [101,110,116,101,114],bs [97,109,121],bs [],bs [],bs [115,112,114,105,110,116],0,0,bs [116,105,109,101],112000,bs [],[]),(7950,bs [101,110,116,101,114],bs [98,101,97],bs [],bs [],bs [115,112,114,105,110,116],0,0,bs [116,105,109,101],119000,bs [],[])]
def stS:Qz:=([bs [65],bs [66]],[(bs [97,110,110],bs [65],1000,bs [119,111,109,101,110]),(bs [97,109,121],bs [65],1000,bs [119,111,109,101,110]),(bs [98,101,97],bs [66],1000,bs [119,111,109,101,110])],[(bs [97,110,110],7000,9000),(bs [97,109,121],7000,9000),(bs [98,101,97],7000,9000)],[(bs [97,110,110],bs [115,112,114,105,110,116],bs [116,105,109,101],115000,bs [],7950,false),(bs [97,109,121],bs [115,112,114,105,110,116],bs [116,105,109,101],112000,bs [],7950,false),(bs [98,101,97],bs [115,112,114,105,110,116],bs [116,105,109,101],119000,bs [],7950,false)],[])
def stT:Qz:=([bs [65],bs [66]],[(bs [97,110,110],bs [65],1000,bs [119,111,109,101,110]),(bs [97,109,121],bs [65],1000,bs [119,111,109,101,110]),(bs [98,101,97],bs [66],1000,bs [119,111,109,101,110])],[(bs [97,110,110],7000,9000),(bs [97,109,121],7000,9000),(bs [98,101,97],7000,9000)],[(bs [97,110,110],bs [115,112,114,105,110,116],bs [116,105,109,101],115000,bs [],7950,false),(bs [98,101,97],bs [115,112,114,105,110,116],bs [116,105,109,101],119000,bs [],7950,false)],[])
def stU:Qz:=([bs [65],bs [66]],[(bs [97,110,110],bs [65],1000,bs [119,111,109,101,110]),(bs [97,109,121],bs [65],1000,bs [119,111,109,101,110]),(bs [98,101,97],bs [66],1000,bs [119,111,109,101,110])],[(bs [97,110,110],7000,9000),(bs [97,109,121],7000,9000),(bs [98,101,97],7000,9000)],[(bs [97,110,110],bs [115,112,114,105,110,116],bs [116,105,109,101],115000,bs [],7950,false),(bs [97,109,121],bs [115,112,114,105,110,116],bs [116,105,109,101],112000,bs [],7950,false),(bs [98,101,97],bs [115,112,114,105,110,116],bs [116,105,109,101],119000,bs [],7950,false)],[(bs [65],bs [114,101,108,97,121],[bs [97,110,110],bs [97,109,121]])])
def stX:Qz:=([bs [65],bs [66]],[(bs [97,110,110],bs [65],1000,bs [119,111,109,101,110]),(bs [97,109,121],bs [65],1000,bs [119,111,109,101,110]),(bs [98,101,97],bs [66],1000,bs [119,111,109,101,110])],[(bs [97,110,110],7000,9000),(bs [97,109,121],7000,9000),(bs [98,101,97],7000,9000)],[(bs [97,110,110],bs [115,112,114,105,110,116],bs [116,105,109,101],115000,bs [],7950,true),(bs [97,109,121],bs [115,112,114,105,110,116],bs [116,105,109,101],112000,bs [],7950,false),(bs [98,101,97],bs [115,112,114,105,110,116],bs [116,105,109,101],119000,bs [],7950,false)],[])
def stY:Qz:=([bs [65],bs [66]],[(bs [97,110,110],bs [65],1000,bs [119,111,109,101,110]),(bs [97,109,121],bs [65],1000,bs [119,111,109,101,110]),(bs [98,101,97],bs [66],1000,bs [119,111,109,101,110])],[(bs [97,110,110],7000,9000),(bs [97,109,121],7000,9000),(bs [98,101,97],7000,9000)],[(bs [97,110,110],bs [115,112,114,105,110,116],bs [116,105,109,101],115000,bs [],7950,true),(bs [97,109,121],bs [115,112,114,105,110,116],bs [116,105,109,101],112000,bs [],7950,true),(bs [98,101,97],bs [115,112,114,105,110,116],bs [116,105,109,101],119000,bs [],7950,false)],[])
abbrev Qj6:List Ty:=[.int .i64,.str,.str,.str,.str,.str,.int .i64,.int .i64,.str,.int .i64,.str,.seq [.str]]
noncomputable def lxF:Lx:={ext:=[(83,(Qr1 400).sm)],anns:=[],still:=[]}
theorem Zh2:lxF.Ok cx.bare:=Lx.Q3 (PC.Q0 (Qv2 400).bare) (Lx.W7)
noncomputable def Qxp:PF:={ats:=[],ty:=35,row:=Qj6,code:=fun _=>some Qc8}
theorem q82:codeF cx.bare lxF 3000 (K3 (.typ 0 35 Qj6 .leaf) (Qv f82)) f82 (Qv f82) [] 35 Qj6 ()=some Qc8:=by kernel_rfl
theorem Zqq:X1 cx.bare 82 Qxp:=X1.Zr (Cx.Yc Zs) Zh2 (n:=3000) (an:=K3 (.typ 0 35 Qj6 .leaf) (Qv f82)) (fn:=f82) (c:=Qv f82) (by kernel_rfl) (by kernel_rfl) (fun a y h=>q82.trans h) (by kernel_rfl)
def Qqj:(Zd)×(Qz)×ByteArray:=(opn,stS,bs [115,112,114,105,110,116])
def Qo8:List ByteArray×Int:=([bs [97,109,121],bs [98,101,97]],0)
abbrev Vm:List Qf:=[.agg [.int .i64,.int .i64,.int .i64,.int .i64,.seq [.str,.str,.str,.int .i64,.int .i64,.int .i64,.int .i64,.str,.int .i64,.str,.int .i64]],.agg [.seq [.str],.seq [.str,.str,.int .i64,.str],.seq [.str,.int .i64,.int .i64],.seq [.str,.str,.str,.int .i64,.str,.int .i64,.bool],.seq [.str,.str,.seq [.str]]],.val .str]
abbrev Jq:List Qf:=[.val (.seq [.str]),.val (.int .i64)]
theorem Zto:(Qo2 400).code Qqj=some Qo8:=by kernel_rfl
noncomputable def Qnu:PC:={ats:=Vm,rts:=Jq,code:=Go.Sx.one (ats:=Vm) (rts:=Jq) Qqj Qo8}
theorem Zkq:Qg cx.bare 52 Qnu:=(Qmv 400).bare.one Qqj Qo8 Zto
def Qm2:(Zd)×(Qz)×ByteArray:=(opn,stS,bs [115,112,114,105,110,116])
def Qpv:List ByteArray×Int:=([bs [97,110,110]],0)
theorem Zla:(Qzq 400).code Qm2=some Qpv:=by kernel_rfl
noncomputable def Qyj:PC:={ats:=Vm,rts:=Jq,code:=Go.Sx.one (ats:=Vm) (rts:=Jq) Qm2 Qpv}
theorem Zmg:Qg cx.bare 56 Qyj:=(Qzk 400).bare.one Qm2 Qpv Zla
def Qg0:(Zd)×(Qz)×ByteArray:=(opn,stT,bs [115,112,114,105,110,116])
def Qf2:List ByteArray×Int:=([bs [97,110,110],bs [98,101,97]],0)
theorem Zgq:(Qo2 400).code Qg0=some Qf2:=by kernel_rfl
noncomputable def Zh3:PC:={ats:=Vm,rts:=Jq,code:=Go.Sx.one (ats:=Vm) (rts:=Jq) Qg0 Qf2}
theorem Zvn:Qg cx.bare 52 Zh3:=(Qmv 400).bare.one Qg0 Qf2 Zgq
def Qot:(Zd)×(Qz):=(opn,stU)
def Qqw:List (ByteArray×ByteArray)×Int:=([(bs [115,112,114,105,110,116],bs [114,101,108,97,121])],0)
abbrev Qja:List Qf:=[.agg [.int .i64,.int .i64,.int .i64,.int .i64,.seq [.str,.str,.str,.int .i64,.int .i64,.int .i64,.int .i64,.str,.int .i64,.str,.int .i64]],.agg [.seq [.str],.seq [.str,.str,.int .i64,.str],.seq [.str,.int .i64,.int .i64],.seq [.str,.str,.str,.int .i64,.str,.int .i64,.bool],.seq [.str,.str,.seq [.str]]]]
abbrev Qsu:List Qf:=[.val (.seq [.str,.str]),.val (.int .i64)]
theorem Zrq:(Qu0 400).code Qot=some Qqw:=by kernel_rfl
noncomputable def Qvz:PC:={ats:=Qja,rts:=Qsu,code:=Go.Sx.one (ats:=Qja) (rts:=Qsu) Qot Qqw}
theorem Zqz:Qg cx.bare 37 Qvz:=(Zqk 400).bare.one Qot Qqw Zrq
def Qry:(Zd)×(Qz):=(opn,stS)
def Qpn:List Int×Int:=([2,1],0)
abbrev Qxc:List Qf:=[.val (.seq [.int .i64]),.val (.int .i64)]
theorem Zqf:(Qy2 400).code Qry=some Qpn:=by kernel_rfl
noncomputable def Zbe:PC:={ats:=Qja,rts:=Qxc,code:=Go.Sx.one (ats:=Qja) (rts:=Qxc) Qry Qpn}
theorem Zmj:Qg cx.bare 38 Zbe:=(Zbo 400).bare.one Qry Qpn Zqf
def Qpc:(Zd)×(Qz)×ByteArray:=(opn,stU,bs [97,110,110])
def Qre:List ByteArray×Int:=([bs [115,112,114,105,110,116],bs [114,101,108,97,121]],0)
theorem Zei:(Zbg 400).code Qpc=some Qre:=by kernel_rfl
noncomputable def Qt2:PC:={ats:=Vm,rts:=Jq,code:=Go.Sx.one (ats:=Vm) (rts:=Jq) Qpc Qre}
theorem Zjn:Qg cx.bare 36 Qt2:=(Zcx 400).bare.one Qpc Qre Zei
noncomputable def Wq:Lx:={ext:=[(98,(Qkf 400).sm),(99,(Qmc 400).sm)],anns:=[],still:=[]}
theorem Vg:Wq.Ok cx.bare:=Lx.Q3 (PC.Q0 (Qes 400).bare) (Lx.Q3 (PC.Q0 (Qef 400).bare) (Lx.W7))
def Jz:(Ye):=(7000,bs [99,108,117,98],bs [],bs [65],bs [],bs [],0,0,bs [],0,bs [],[])
def Jx:Int:=0
abbrev Zl:List Qf:=[.agg [.int .i64,.str,.str,.str,.str,.str,.int .i64,.int .i64,.str,.int .i64,.str,.seq [.str]]]
abbrev Q4:List Qf:=[.val (.int .i64)]
theorem Zk3:Z9 cx.bare Wq 3000 .leaf f23 (Qv f23) Zl Q4 Jz=some Jx:=by kernel_rfl
noncomputable def Zkj:PC:={ats:=Zl,rts:=Q4,code:=Go.Sx.one (ats:=Zl) (rts:=Q4) Jz Jx}
theorem Zh7:Qg cx.bare 23 Zkj:=Qg.Zr (Cx.Yc Zs) Vg (n:=3000) (an:=.leaf) (fn:=f23) (c:=Qv f23) (by kernel_rfl) (by kernel_rfl) (fun a y h=>by obtain⟨h1,h2⟩:=Go.Sx.one_some h;subst h1;subst h2;exact Zk3) (by kernel_rfl)
def J9:(Ye):=(7000,bs [99,108,117,98],bs [],bs [66],bs [],bs [],0,0,bs [],0,bs [],[])
def We:Int:=0
theorem Zdj:Z9 cx.bare Wq 3000 .leaf f23 (Qv f23) Zl Q4 J9=some We:=by kernel_rfl
noncomputable def Zf8:PC:={ats:=Zl,rts:=Q4,code:=Go.Sx.one (ats:=Zl) (rts:=Q4) J9 We}
theorem Zfu:Qg cx.bare 23 Zf8:=Qg.Zr (Cx.Yc Zs) Vg (n:=3000) (an:=.leaf) (fn:=f23) (c:=Qv f23) (by kernel_rfl) (by kernel_rfl) (fun a y h=>by obtain⟨h1,h2⟩:=Go.Sx.one_some h;subst h1;subst h2;exact Zdj) (by kernel_rfl)
def Wm:(Ye):=(7000,bs [97,116,104,108,101,116,101],bs [97,110,110],bs [65],bs [119,111,109,101,110],bs [],1000,0,bs [],0,bs [],[])
def Ww:Int:=0
theorem Zvz:Z9 cx.bare Wq 3000 .leaf f23 (Qv f23) Zl Q4 Wm=some Ww:=by kernel_rfl
noncomputable def Znn:PC:={ats:=Zl,rts:=Q4,code:=Go.Sx.one (ats:=Zl) (rts:=Q4) Wm Ww}
theorem Zn0:Qg cx.bare 23 Znn:=Qg.Zr (Cx.Yc Zs) Vg (n:=3000) (an:=.leaf) (fn:=f23) (c:=Qv f23) (by kernel_rfl) (by kernel_rfl) (fun a y h=>by obtain⟨h1,h2⟩:=Go.Sx.one_some h;subst h1;subst h2;exact Zvz) (by kernel_rfl)
def Vo:(Ye):=(7000,bs [108,105,99,101,110,99,101],bs [97,110,110],bs [],bs [],bs [],7000,9000,bs [],0,bs [],[])
def Vc:Int:=0
theorem Zw0:Z9 cx.bare Wq 3000 .leaf f23 (Qv f23) Zl Q4 Vo=some Vc:=by kernel_rfl
noncomputable def Zw8:PC:={ats:=Zl,rts:=Q4,code:=Go.Sx.one (ats:=Zl) (rts:=Q4) Vo Vc}
theorem Zsy:Qg cx.bare 23 Zw8:=Qg.Zr (Cx.Yc Zs) Vg (n:=3000) (an:=.leaf) (fn:=f23) (c:=Qv f23) (by kernel_rfl) (by kernel_rfl) (fun a y h=>by obtain⟨h1,h2⟩:=Go.Sx.one_some h;subst h1;subst h2;exact Zw0) (by kernel_rfl)
def V3:(Ye):=(7000,bs [97,116,104,108,101,116,101],bs [97,109,121],bs [65],bs [119,111,109,101,110],bs [],1000,0,bs [],0,bs [],[])
def Kf:Int:=0
theorem Znu:Z9 cx.bare Wq 3000 .leaf f23 (Qv f23) Zl Q4 V3=some Kf:=by kernel_rfl
noncomputable def Zi8:PC:={ats:=Zl,rts:=Q4,code:=Go.Sx.one (ats:=Zl) (rts:=Q4) V3 Kf}
theorem Zlt:Qg cx.bare 23 Zi8:=Qg.Zr (Cx.Yc Zs) Vg (n:=3000) (an:=.leaf) (fn:=f23) (c:=Qv f23) (by kernel_rfl) (by kernel_rfl) (fun a y h=>by obtain⟨h1,h2⟩:=Go.Sx.one_some h;subst h1;subst h2;exact Znu) (by kernel_rfl)
def K5:(Ye):=(7000,bs [108,105,99,101,110,99,101],bs [97,109,121],bs [],bs [],bs [],7000,9000,bs [],0,bs [],[])
def Ub:Int:=0
theorem Zxg:Z9 cx.bare Wq 3000 .leaf f23 (Qv f23) Zl Q4 K5=some Ub:=by kernel_rfl
noncomputable def Zv4:PC:={ats:=Zl,rts:=Q4,code:=Go.Sx.one (ats:=Zl) (rts:=Q4) K5 Ub}
theorem Zzj:Qg cx.bare 23 Zv4:=Qg.Zr (Cx.Yc Zs) Vg (n:=3000) (an:=.leaf) (fn:=f23) (c:=Qv f23) (by kernel_rfl) (by kernel_rfl) (fun a y h=>by obtain⟨h1,h2⟩:=Go.Sx.one_some h;subst h1;subst h2;exact Zxg) (by kernel_rfl)
def U3:(Ye):=(7000,bs [97,116,104,108,101,116,101],bs [98,101,97],bs [66],bs [119,111,109,101,110],bs [],1000,0,bs [],0,bs [],[])
def Qai:Int:=0
theorem Zno:Z9 cx.bare Wq 3000 .leaf f23 (Qv f23) Zl Q4 U3=some Qai:=by kernel_rfl
noncomputable def Zob:PC:={ats:=Zl,rts:=Q4,code:=Go.Sx.one (ats:=Zl) (rts:=Q4) U3 Qai}
theorem Zl6:Qg cx.bare 23 Zob:=Qg.Zr (Cx.Yc Zs) Vg (n:=3000) (an:=.leaf) (fn:=f23) (c:=Qv f23) (by kernel_rfl) (by kernel_rfl) (fun a y h=>by obtain⟨h1,h2⟩:=Go.Sx.one_some h;subst h1;subst h2;exact Zno) (by kernel_rfl)
def Qb4:(Ye):=(7000,bs [108,105,99,101,110,99,101],bs [98,101,97],bs [],bs [],bs [],7000,9000,bs [],0,bs [],[])
def Qar:Int:=0
theorem Zke:Z9 cx.bare Wq 3000 .leaf f23 (Qv f23) Zl Q4 Qb4=some Qar:=by kernel_rfl
noncomputable def Zpe:PC:={ats:=Zl,rts:=Q4,code:=Go.Sx.one (ats:=Zl) (rts:=Q4) Qb4 Qar}
theorem Zsq:Qg cx.bare 23 Zpe:=Qg.Zr (Cx.Yc Zs) Vg (n:=3000) (an:=.leaf) (fn:=f23) (c:=Qv f23) (by kernel_rfl) (by kernel_rfl) (fun a y h=>by obtain⟨h1,h2⟩:=Go.Sx.one_some h;subst h1;subst h2;exact Zke) (by kernel_rfl)
def Qcj:(Ye):=(7950,bs [101,110,116,101,114],bs [97,110,110],bs [],bs [],bs [115,112,114,105,110,116],0,0,bs [116,105,109,101],115000,bs [],[])
def Qdd:Int:=0
theorem Zss:Z9 cx.bare Wq 3000 .leaf f23 (Qv f23) Zl Q4 Qcj=some Qdd:=by kernel_rfl
noncomputable def Zls:PC:={ats:=Zl,rts:=Q4,code:=Go.Sx.one (ats:=Zl) (rts:=Q4) Qcj Qdd}
theorem Zvw:Qg cx.bare 23 Zls:=Qg.Zr (Cx.Yc Zs) Vg (n:=3000) (an:=.leaf) (fn:=f23) (c:=Qv f23) (by kernel_rfl) (by kernel_rfl) (fun a y h=>by obtain⟨h1,h2⟩:=Go.Sx.one_some h;subst h1;subst h2;exact Zss) (by kernel_rfl)
def Qft:(Ye):=(7950,bs [101,110,116,101,114],bs [97,109,121],bs [],bs [],bs [115,112,114,105,110,116],0,0,bs [116,105,109,101],112000,bs [],[])
def Qe1:Int:=0
theorem Zt7:Z9 cx.bare Wq 3000 .leaf f23 (Qv f23) Zl Q4 Qft=some Qe1:=by kernel_rfl
noncomputable def Zwa:PC:={ats:=Zl,rts:=Q4,code:=Go.Sx.one (ats:=Zl) (rts:=Q4) Qft Qe1}
theorem Zq4:Qg cx.bare 23 Zwa:=Qg.Zr (Cx.Yc Zs) Vg (n:=3000) (an:=.leaf) (fn:=f23) (c:=Qv f23) (by kernel_rfl) (by kernel_rfl) (fun a y h=>by obtain⟨h1,h2⟩:=Go.Sx.one_some h;subst h1;subst h2;exact Zt7) (by kernel_rfl)
def Ql8:(Ye):=(7950,bs [101,110,116,101,114],bs [98,101,97],bs [],bs [],bs [115,112,114,105,110,116],0,0,bs [116,105,109,101],119000,bs [],[])
def Qkc:Int:=0
theorem Zj6:Z9 cx.bare Wq 3000 .leaf f23 (Qv f23) Zl Q4 Ql8=some Qkc:=by kernel_rfl
noncomputable def Zul:PC:={ats:=Zl,rts:=Q4,code:=Go.Sx.one (ats:=Zl) (rts:=Q4) Ql8 Qkc}
theorem Zid:Qg cx.bare 23 Zul:=Qg.Zr (Cx.Yc Zs) Vg (n:=3000) (an:=.leaf) (fn:=f23) (c:=Qv f23) (by kernel_rfl) (by kernel_rfl) (fun a y h=>by obtain⟨h1,h2⟩:=Go.Sx.one_some h;subst h1;subst h2;exact Zj6) (by kernel_rfl)
end Go.Proofs.Tryz
