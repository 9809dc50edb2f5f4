/- awake: its examples, and what functions of data answer awake: CheckAct at the acts of the office -/
import Derived.Test.YtpkbmngnolhopaaGreatDoorXT3i
import Derived.Test.YtpkbmngnolhopaaGreatDoorXTeK23b
import Derived.Test.YtpkbmngnolhopaaGreatDoorXSxQi
set_option maxRecDepth 1000000
set_option linter.unusedVariables false
namespace Go.Proofs.Tryz
open Go Go.Sx
def bs(l:List UInt8):ByteArray:=⟨⟨l⟩⟩
def opn:Za:=(8000,7900,7990,2,[(bs [115,112,114,105,110,116],bs [116,105,109,101],bs [],16,40,2,1,bs [116,105,109,101],120000,bs [],0),(bs [106,117,109,112],bs [108,101,110,103,116,104],bs [],16,40,8,2,bs [110,111,110,101],0,bs [78,77],0),(bs [114,101,108,97,121],bs [116,105,109,101],bs [],16,40,8,1,bs [110,111,110,101],0,bs [78,77],2)])
def Qgt:List (Z4):=[(7000,bs [99,108,117,98],bs [],bs [65],bs [],bs [],0,0,bs [],0,bs [],[]),(7000,bs [99,108,117,98],bs [],bs [66],bs [],bs [],0,0,bs [],0,bs [],[]),(7000,bs [97,116,104,108,101,116,101],bs [97,110,110],bs [65],bs [119,111,109,101,110],bs [],1000,0,bs [],0,bs [],[]),(7000,bs [108,105,99,101,110,99,101],bs [97,110,110],bs [],bs [],bs [],7000,9000,bs [],0,bs [],[]),(7000,bs [97,116,104,108,101,116,101],bs [97,109,121],bs [65],bs [119,111,109,101,110],bs [],1000,0,bs [],0,bs [],[]),(7000,bs [108,105,99,101,110,99,101],bs [97,109,121],bs [],bs [],bs [],7000,9000,bs [],0,bs [],[]),(7000,bs [97,116,104,108,101,116,101],bs [98,101,97],bs [66],bs [119,111,109,101,110],bs [],1000,0,bs [],0,bs [],[]),(7000,bs [108,105,99,101,110,99,101],bs [98,101,97],bs [],bs [],bs [],7000,9000,bs [],0,bs [],[]),(7950,bs [101,110,116,101,114],bs [97,110,110],bs [],bs [],bs [115,112,114,105,110,116],0,0,bs [116,105,109,101],115000,bs [],[]),(7950,bs [101,110,116,101,114],bs [97,109,121],bs [],bs [],bs [115,112,114,105,110,116],0,0,bs [116,105,109,101],112000,bs [],[]),(7950,bs [101,110,116,101,114],bs [98,101,97],bs [],bs [],bs [115,112,114,105,110,116],0,0,bs [116,105,109,101],119000,bs [],[])]
def stS:Qk:=([bs [65],bs [66]],[(bs [97,110,110],bs [65],1000,bs [119,111,109,101,110]),(bs [97,109,121],bs [65],1000,bs [119,111,109,101,110]),(bs [98,101,97],bs [66],1000,bs [119,111,109,101,110])],[(bs [97,110,110],7000,9000),(bs [97,109,121],7000,9000),(bs [98,101,97],7000,9000)],[(bs [97,110,110],bs [115,112,114,105,110,116],bs [116,105,109,101],115000,bs [],7950,false),(bs [97,109,121],bs [115,112,114,105,110,116],bs [116,105,109,101],112000,bs [],7950,false),(bs [98,101,97],bs [115,112,114,105,110,116],bs [116,105,109,101],119000,bs [],7950,false)],[])
def stT:Qk:=([bs [65],bs [66]],[(bs [97,110,110],bs [65],1000,bs [119,111,109,101,110]),(bs [97,109,121],bs [65],1000,bs [119,111,109,101,110]),(bs [98,101,97],bs [66],1000,bs [119,111,109,101,110])],[(bs [97,110,110],7000,9000),(bs [97,109,121],7000,9000),(bs [98,101,97],7000,9000)],[(bs [97,110,110],bs [115,112,114,105,110,116],bs [116,105,109,101],115000,bs [],7950,false),(bs [98,101,97],bs [115,112,114,105,110,116],bs [116,105,109,101],119000,bs [],7950,false)],[])
def stU:Qk:=([bs [65],bs [66]],[(bs [97,110,110],bs [65],1000,bs [119,111,109,101,110]),(bs [97,109,121],bs [65],1000,bs [119,111,109,101,110]),(bs [98,101,97],bs [66],1000,bs [119,111,109,101,110])],[(bs [97,110,110],7000,9000),(bs [97,109,121],7000,9000),(bs [98,101,97],7000,9000)],[(bs [97,110,110],bs [115,112,114,105,110,116],bs [116,105,109,101],115000,bs [],7950,false),(bs [97,109,121],bs [115,112,114,105,110,116],bs [116,105,109,101],112000,bs [],7950,false),(bs [98,101,97],bs [115,112,114,105,110,116],bs [116,105,109,101],119000,bs [],7950,false)],[(bs [65],bs [114,101,108,97,121],[bs [97,110,110],bs [97,109,121]])])
def stX:Qk:=([bs [65],bs [66]],[(bs [97,110,110],bs [65],1000,bs [119,111,109,101,110]),(bs [97,109,121],bs [65],1000,bs [119,111,109,101,110]),(bs [98,101,97],bs [66],1000,bs [119,111,109,101,110])],[(bs [97,110,110],7000,9000),(bs [97,109,121],7000,9000),(bs [98,101,97],7000,9000)],[(bs [97,110,110],bs [115,112,114,105,110,116],bs [116,105,109,101],115000,bs [],7950,true),(bs [97,109,121],bs [115,112,114,105,110,116],bs [116,105,109,101],112000,bs [],7950,false),(bs [98,101,97],bs [115,112,114,105,110,116],bs [116,105,109,101],119000,bs [],7950,false)],[])
def stY:Qk:=([bs [65],bs [66]],[(bs [97,110,110],bs [65],1000,bs [119,111,109,101,110]),(bs [97,109,121],bs [65],1000,bs [119,111,109,101,110]),(bs [98,101,97],bs [66],1000,bs [119,111,109,101,110])],[(bs [97,110,110],7000,9000),(bs [97,109,121],7000,9000),(bs [98,101,97],7000,9000)],[(bs [97,110,110],bs [115,112,114,105,110,116],bs [116,105,109,101],115000,bs [],7950,true),(bs [97,109,121],bs [115,112,114,105,110,116],bs [116,105,109,101],112000,bs [],7950,true),(bs [98,101,97],bs [115,112,114,105,110,116],bs [116,105,109,101],119000,bs [],7950,false)],[])
abbrev Ql3:List Ty:=[.int .i64,.str,.str,.str,.str,.str,.int .i64,.int .i64,.str,.int .i64,.str,.seq [.str]]
noncomputable def lxF:Lx:={ext:=[(83,(Quc 400).sm)],anns:=[],still:=[]}
theorem Zpz:lxF.Ok cx.bare:=Lx.Zd (PC.Qo (Za4 400).bare) (Lx.V9)
noncomputable def Zgj:PF:={ats:=[],ty:=35,row:=Ql3,code:=fun _=>some Qgt}
theorem q82:codeF cx.bare lxF 3000 (U2 (.typ 0 35 Ql3 .leaf) (Qq f82)) f82 (Qq f82) [] 35 Ql3 ()=some Qgt:=by kernel_rfl
theorem Zh7:Jj cx.bare 82 Zgj:=Jj.Zr (Cx.Yj Zs) Zpz (n:=3000) (an:=U2 (.typ 0 35 Ql3 .leaf) (Qq f82)) (fn:=f82) (c:=Qq f82) (by kernel_rfl) (by kernel_rfl) (fun a y h=>q82.trans h) (by kernel_rfl)
def Qrw:(Za)×(Qk)×ByteArray:=(opn,stS,bs [115,112,114,105,110,116])
def Qr9:List ByteArray×Int:=([bs [97,109,121],bs [98,101,97]],0)
abbrev Ke:List Qf:=[.agg [.int .i64,.int .i64,.int .i64,.int .i64,.seq [.str,.str,.str,.int .i64,.int .i64,.int .i64,.int .i64,.str,.int .i64,.str,.int .i64]],.agg [.seq [.str],.seq [.str,.str,.int .i64,.str],.seq [.str,.int .i64,.int .i64],.seq [.str,.str,.str,.int .i64,.str,.int .i64,.bool],.seq [.str,.str,.seq [.str]]],.val .str]
abbrev Wo:List Qf:=[.val (.seq [.str]),.val (.int .i64)]
theorem Zxz:(Qss 400).code Qrw=some Qr9:=by kernel_rfl
noncomputable def Qt5:PC:={ats:=Ke,rts:=Wo,code:=Go.Sx.one (ats:=Ke) (rts:=Wo) Qrw Qr9}
theorem Yd1:Qg cx.bare 52 Qt5:=(Qq0 400).bare.one Qrw Qr9 Zxz
def Que:(Za)×(Qk)×ByteArray:=(opn,stS,bs [115,112,114,105,110,116])
def Qr7:List ByteArray×Int:=([bs [97,110,110]],0)
theorem Zx3:(Qwa 400).code Que=some Qr7:=by kernel_rfl
noncomputable def Zgn:PC:={ats:=Ke,rts:=Wo,code:=Go.Sx.one (ats:=Ke) (rts:=Wo) Que Qr7}
theorem Zin:Qg cx.bare 56 Zgn:=(Zr7 400).bare.one Que Qr7 Zx3
def Qhy:(Za)×(Qk)×ByteArray:=(opn,stT,bs [115,112,114,105,110,116])
def Qji:List ByteArray×Int:=([bs [97,110,110],bs [98,101,97]],0)
theorem Ycd:(Qss 400).code Qhy=some Qji:=by kernel_rfl
noncomputable def Zn3:PC:={ats:=Ke,rts:=Wo,code:=Go.Sx.one (ats:=Ke) (rts:=Wo) Qhy Qji}
theorem Zl7:Qg cx.bare 52 Zn3:=(Qq0 400).bare.one Qhy Qji Ycd
def Qum:(Za)×(Qk):=(opn,stU)
def Qrr:List (ByteArray×ByteArray)×Int:=([(bs [115,112,114,105,110,116],bs [114,101,108,97,121])],0)
abbrev Qnx:List Qf:=[.agg [.int .i64,.int .i64,.int .i64,.int .i64,.seq [.str,.str,.str,.int .i64,.int .i64,.int .i64,.int .i64,.str,.int .i64,.str,.int .i64]],.agg [.seq [.str],.seq [.str,.str,.int .i64,.str],.seq [.str,.int .i64,.int .i64],.seq [.str,.str,.str,.int .i64,.str,.int .i64,.bool],.seq [.str,.str,.seq [.str]]]]
abbrev Zbj:List Qf:=[.val (.seq [.str,.str]),.val (.int .i64)]
theorem Yax:(Qyi 400).code Qum=some Qrr:=by kernel_rfl
noncomputable def Zfy:PC:={ats:=Qnx,rts:=Zbj,code:=Go.Sx.one (ats:=Qnx) (rts:=Zbj) Qum Qrr}
theorem Yh2:Qg cx.bare 37 Zfy:=(Yfv 400).bare.one Qum Qrr Yax
def Qtw:(Za)×(Qk):=(opn,stS)
def Qqk:List Int×Int:=([2,1],0)
abbrev Zbg:List Qf:=[.val (.seq [.int .i64]),.val (.int .i64)]
theorem Zta:(Qyn 400).code Qtw=some Qqk:=by kernel_rfl
noncomputable def Zg2:PC:={ats:=Qnx,rts:=Zbg,code:=Go.Sx.one (ats:=Qnx) (rts:=Zbg) Qtw Qqk}
theorem Zrc:Qg cx.bare 38 Zg2:=(Zqr 400).bare.one Qtw Qqk Zta
def Qq4:(Za)×(Qk)×ByteArray:=(opn,stU,bs [97,110,110])
def Qp8:List ByteArray×Int:=([bs [115,112,114,105,110,116],bs [114,101,108,97,121]],0)
theorem Zkx:(Qyk 400).code Qq4=some Qp8:=by kernel_rfl
noncomputable def Qxy:PC:={ats:=Ke,rts:=Wo,code:=Go.Sx.one (ats:=Ke) (rts:=Wo) Qq4 Qp8}
theorem Zzg:Qg cx.bare 36 Qxy:=(Yd6 400).bare.one Qq4 Qp8 Zkx
noncomputable def V5:Lx:={ext:=[(98,(Qn0 400).sm),(99,(Qld 400).sm)],anns:=[],still:=[]}
theorem Ky:V5.Ok cx.bare:=Lx.Zd (PC.Qo (Vb 400).bare) (Lx.Zd (PC.Qo (Wx 400).bare) (Lx.V9))
def Wq:(Z4):=(7000,bs [99,108,117,98],bs [],bs [65],bs [],bs [],0,0,bs [],0,bs [],[])
def Wp:Int:=0
abbrev Zw:List Qf:=[.agg [.int .i64,.str,.str,.str,.str,.str,.int .i64,.int .i64,.str,.int .i64,.str,.seq [.str]]]
abbrev Ze:List Qf:=[.val (.int .i64)]
theorem Ydl:Zm cx.bare V5 3000 .leaf f23 (Qq f23) Zw Ze Wq=some Wp:=by kernel_rfl
noncomputable def Yh1:PC:={ats:=Zw,rts:=Ze,code:=Go.Sx.one (ats:=Zw) (rts:=Ze) Wq Wp}
theorem Ye3:Qg cx.bare 23 Yh1:=Qg.Zr (Cx.Yj Zs) Ky (n:=3000) (an:=.leaf) (fn:=f23) (c:=Qq f23) (by kernel_rfl) (by kernel_rfl) (fun a y h=>by obtain⟨h1,h2⟩:=Go.Sx.one_some h;subst h1;subst h2;exact Ydl) (by kernel_rfl)
def Vh:(Z4):=(7000,bs [99,108,117,98],bs [],bs [66],bs [],bs [],0,0,bs [],0,bs [],[])
def Vf:Int:=0
theorem Zvn:Zm cx.bare V5 3000 .leaf f23 (Qq f23) Zw Ze Vh=some Vf:=by kernel_rfl
noncomputable def Zmd:PC:={ats:=Zw,rts:=Ze,code:=Go.Sx.one (ats:=Zw) (rts:=Ze) Vh Vf}
theorem Zw3:Qg cx.bare 23 Zmd:=Qg.Zr (Cx.Yj Zs) Ky (n:=3000) (an:=.leaf) (fn:=f23) (c:=Qq f23) (by kernel_rfl) (by kernel_rfl) (fun a y h=>by obtain⟨h1,h2⟩:=Go.Sx.one_some h;subst h1;subst h2;exact Zvn) (by kernel_rfl)
def Vs:(Z4):=(7000,bs [97,116,104,108,101,116,101],bs [97,110,110],bs [65],bs [119,111,109,101,110],bs [],1000,0,bs [],0,bs [],[])
def Vy:Int:=0
theorem Ycl:Zm cx.bare V5 3000 .leaf f23 (Qq f23) Zw Ze Vs=some Vy:=by kernel_rfl
noncomputable def Yip:PC:={ats:=Zw,rts:=Ze,code:=Go.Sx.one (ats:=Zw) (rts:=Ze) Vs Vy}
theorem Zmu:Qg cx.bare 23 Yip:=Qg.Zr (Cx.Yj Zs) Ky (n:=3000) (an:=.leaf) (fn:=f23) (c:=Qq f23) (by kernel_rfl) (by kernel_rfl) (fun a y h=>by obtain⟨h1,h2⟩:=Go.Sx.one_some h;subst h1;subst h2;exact Ycl) (by kernel_rfl)
def Kf:(Z4):=(7000,bs [108,105,99,101,110,99,101],bs [97,110,110],bs [],bs [],bs [],7000,9000,bs [],0,bs [],[])
def Kj:Int:=0
theorem Zh1:Zm cx.bare V5 3000 .leaf f23 (Qq f23) Zw Ze Kf=some Kj:=by kernel_rfl
noncomputable def Zzj:PC:={ats:=Zw,rts:=Ze,code:=Go.Sx.one (ats:=Zw) (rts:=Ze) Kf Kj}
theorem Zy2:Qg cx.bare 23 Zzj:=Qg.Zr (Cx.Yj Zs) Ky (n:=3000) (an:=.leaf) (fn:=f23) (c:=Qq f23) (by kernel_rfl) (by kernel_rfl) (fun a y h=>by obtain⟨h1,h2⟩:=Go.Sx.one_some h;subst h1;subst h2;exact Zh1) (by kernel_rfl)
def Ux:(Z4):=(7000,bs [97,116,104,108,101,116,101],bs [97,109,121],bs [65],bs [119,111,109,101,110],bs [],1000,0,bs [],0,bs [],[])
def K9:Int:=0
theorem Zv5:Zm cx.bare V5 3000 .leaf f23 (Qq f23) Zw Ze Ux=some K9:=by kernel_rfl
noncomputable def Yks:PC:={ats:=Zw,rts:=Ze,code:=Go.Sx.one (ats:=Zw) (rts:=Ze) Ux K9}
theorem Zwl:Qg cx.bare 23 Yks:=Qg.Zr (Cx.Yj Zs) Ky (n:=3000) (an:=.leaf) (fn:=f23) (c:=Qq f23) (by kernel_rfl) (by kernel_rfl) (fun a y h=>by obtain⟨h1,h2⟩:=Go.Sx.one_some h;subst h1;subst h2;exact Zv5) (by kernel_rfl)
def Qad:(Z4):=(7000,bs [108,105,99,101,110,99,101],bs [97,109,121],bs [],bs [],bs [],7000,9000,bs [],0,bs [],[])
def Qab:Int:=0
theorem Ydi:Zm cx.bare V5 3000 .leaf f23 (Qq f23) Zw Ze Qad=some Qab:=by kernel_rfl
noncomputable def Ztt:PC:={ats:=Zw,rts:=Ze,code:=Go.Sx.one (ats:=Zw) (rts:=Ze) Qad Qab}
theorem Zh4:Qg cx.bare 23 Ztt:=Qg.Zr (Cx.Yj Zs) Ky (n:=3000) (an:=.leaf) (fn:=f23) (c:=Qq f23) (by kernel_rfl) (by kernel_rfl) (fun a y h=>by obtain⟨h1,h2⟩:=Go.Sx.one_some h;subst h1;subst h2;exact Ydi) (by kernel_rfl)
def Qcg:(Z4):=(7000,bs [97,116,104,108,101,116,101],bs [98,101,97],bs [66],bs [119,111,109,101,110],bs [],1000,0,bs [],0,bs [],[])
def Qbc:Int:=0
theorem Yc7:Zm cx.bare V5 3000 .leaf f23 (Qq f23) Zw Ze Qcg=some Qbc:=by kernel_rfl
noncomputable def Zyk:PC:={ats:=Zw,rts:=Ze,code:=Go.Sx.one (ats:=Zw) (rts:=Ze) Qcg Qbc}
theorem Znf:Qg cx.bare 23 Zyk:=Qg.Zr (Cx.Yj Zs) Ky (n:=3000) (an:=.leaf) (fn:=f23) (c:=Qq f23) (by kernel_rfl) (by kernel_rfl) (fun a y h=>by obtain⟨h1,h2⟩:=Go.Sx.one_some h;subst h1;subst h2;exact Yc7) (by kernel_rfl)
def Qdp:(Z4):=(7000,bs [108,105,99,101,110,99,101],bs [98,101,97],bs [],bs [],bs [],7000,9000,bs [],0,bs [],[])
def Qd1:Int:=0
theorem Yb9:Zm cx.bare V5 3000 .leaf f23 (Qq f23) Zw Ze Qdp=some Qd1:=by kernel_rfl
noncomputable def Zqu:PC:={ats:=Zw,rts:=Ze,code:=Go.Sx.one (ats:=Zw) (rts:=Ze) Qdp Qd1}
theorem Yjw:Qg cx.bare 23 Zqu:=Qg.Zr (Cx.Yj Zs) Ky (n:=3000) (an:=.leaf) (fn:=f23) (c:=Qq f23) (by kernel_rfl) (by kernel_rfl) (fun a y h=>by obtain⟨h1,h2⟩:=Go.Sx.one_some h;subst h1;subst h2;exact Yb9) (by kernel_rfl)
def Qej:(Z4):=(7950,bs [101,110,116,101,114],bs [97,110,110],bs [],bs [],bs [115,112,114,105,110,116],0,0,bs [116,105,109,101],115000,bs [],[])
def Qfj:Int:=0
theorem Yih:Zm cx.bare V5 3000 .leaf f23 (Qq f23) Zw Ze Qej=some Qfj:=by kernel_rfl
noncomputable def Zkf:PC:={ats:=Zw,rts:=Ze,code:=Go.Sx.one (ats:=Zw) (rts:=Ze) Qej Qfj}
theorem Yd2:Qg cx.bare 23 Zkf:=Qg.Zr (Cx.Yj Zs) Ky (n:=3000) (an:=.leaf) (fn:=f23) (c:=Qq f23) (by kernel_rfl) (by kernel_rfl) (fun a y h=>by obtain⟨h1,h2⟩:=Go.Sx.one_some h;subst h1;subst h2;exact Yih) (by kernel_rfl)
def Qjj:(Z4):=(7950,bs [101,110,116,101,114],bs [97,109,121],bs [],bs [],bs [115,112,114,105,110,116],0,0,bs [116,105,109,101],112000,bs [],[])
def Qjw:Int:=0
theorem Zpj:Zm cx.bare V5 3000 .leaf f23 (Qq f23) Zw Ze Qjj=some Qjw:=by kernel_rfl
noncomputable def Zrl:PC:={ats:=Zw,rts:=Ze,code:=Go.Sx.one (ats:=Zw) (rts:=Ze) Qjj Qjw}
theorem Zvt:Qg cx.bare 23 Zrl:=Qg.Zr (Cx.Yj Zs) Ky (n:=3000) (an:=.leaf) (fn:=f23) (c:=Qq f23) (by kernel_rfl) (by kernel_rfl) (fun a y h=>by obtain⟨h1,h2⟩:=Go.Sx.one_some h;subst h1;subst h2;exact Zpj) (by kernel_rfl)
def Qnt:(Z4):=(7950,bs [101,110,116,101,114],bs [98,101,97],bs [],bs [],bs [115,112,114,105,110,116],0,0,bs [116,105,109,101],119000,bs [],[])
def Qo1:Int:=0
theorem Zo2:Zm cx.bare V5 3000 .leaf f23 (Qq f23) Zw Ze Qnt=some Qo1:=by kernel_rfl
noncomputable def Ykn:PC:={ats:=Zw,rts:=Ze,code:=Go.Sx.one (ats:=Zw) (rts:=Ze) Qnt Qo1}
theorem Zyp:Qg cx.bare 23 Ykn:=Qg.Zr (Cx.Yj Zs) Ky (n:=3000) (an:=.leaf) (fn:=f23) (c:=Qq f23) (by kernel_rfl) (by kernel_rfl) (fun a y h=>by obtain⟨h1,h2⟩:=Go.Sx.one_some h;subst h1;subst h2;exact Zo2) (by kernel_rfl)
end Go.Proofs.Tryz
