/- closed runs of (stadion/track.Oval).where closed runs of (stadion/track.Oval).where And further parts. -/
import Derived.Test.YtebmfbcngojbdaaGreatDoorXTkN_txt0
import Derived.Test.YtebmfbcngojbdaaGreatDoorXT7a
import Derived.Test.YtebmfbcngojbdaaGreatDoorXTkCx
import Derived.Test.YtebmfbcngojbdaaGreatDoorXTkF
set_option maxRecDepth 1000000
set_option linter.unusedVariables false
set_option linter.all false
namespace Go.Proofs.Tryz
open Go Go.Sx
def Qoc:LC:=⟨[.agg #[.int .i64 84390,.int .i64 36500,.int .i64 1220,.int .i64 300,.int .i64 200,.int .i64 8],.int .i64 1,.int .i64 115630,.agg #[.int .i64 333,.slice none 0 0,.int .i64 106,.slice none 0 0]],[.int .i64 0,.int .i64 1,.agg #[.int .i64 1190,.slice none 0 0,.int .i64 53,.slice none 0 0]]⟩
theorem Zs1:Qp cx.bare lxN 3000 .leaf f62 (Qd f62) Qoc=some ():=by kernel_rfl
theorem Zf4:Qg cx.bare 62 Qoc:=Qg.Qi (Cx.Qm Qj) Zl (n:=3000) (an:=.leaf) (fn:=f62) (c:=Qd f62) (by kernel_rfl) (by kernel_rfl) Zs1 (by kernel_rfl)
def Qm1:LC:=⟨[.agg #[.int .i64 84390,.int .i64 36500,.int .i64 1220,.int .i64 300,.int .i64 200,.int .i64 8],.int .i64 1,.int .i64 115630,.agg #[.int .i64 22,.slice none 0 0,.int .i64 7,.slice none 0 0]],[.int .i64 0,.int .i64 0,.agg #[.int .i64 115630,.slice none 0 0,.int .i64 1,.slice none 0 0]]⟩
theorem Zru:Qp cx.bare lxN 3000 .leaf f62 (Qd f62) Qm1=some ():=by kernel_rfl
theorem Zr1:Qg cx.bare 62 Qm1:=Qg.Qi (Cx.Qm Qj) Zl (n:=3000) (an:=.leaf) (fn:=f62) (c:=Qd f62) (by kernel_rfl) (by kernel_rfl) Zru (by kernel_rfl)
def Qto:List LC:=[Qok,Qps,Qgy,Qhi,Qiv,Qjb,Qou,Qgr,Qkg,Ql8,Qkw,Ql2,Qpd,Qnc,Qnp,Qm0]
theorem Zkn:Yr cx.bare 58 (Z3 Qto):=Jo ⟨f58,by kernel_rfl⟩ (Qq Zax (Qq Zbk (Qq Zob (Qq Zl1 (Qq Zb7 (Qq Zce (Qq Ztj (Qq Zr4 (Qq Za5 (Qq Zm1 (Qq Zdn (Qq Zcb (Qq Zcr (Qq Zgi (Qq Zd2 (Qq Zec (Jq)))))))))))))))))
def Qzf:List LC:=[Qom,Qkr,Qmc,Qov,Qgs,Qlm,Qpz,Qgq,Qhm]
theorem Zp0:Yr cx.bare 59 (Z3 Qzf):=Jo ⟨f59,by kernel_rfl⟩ (Qq Zj0 (Qq Zmd (Qq Zmq (Qq Zie (Qq Ztm (Qq Zcw (Qq Zqw (Qq Zmr (Qq Zgg (Jq))))))))))
def Qrb:List LC:=[Qj7,Ql6,Qgo,Qo7,Qlr,Qjd,Qht,Qg0]
theorem Zjb:Yr cx.bare 57 (Z3 Qrb):=Jo ⟨f57,by kernel_rfl⟩ (Qq Zow (Qq Zlp (Qq Zlo (Qq Zif (Qq Zme (Qq Zsh (Qq Zsp (Qq Znx (Jq)))))))))
def Qzo:List LC:=[Qk8,Qhw,Qoc,Qm1]
theorem Zlq:Yr cx.bare 62 (Z3 Qzo):=Jo ⟨f62,by kernel_rfl⟩ (Qq Zkx (Qq Zoi (Qq Zf4 (Qq Zr1 (Jq)))))
noncomputable def lxP:Lx:={ext:=[(121,(Qbx 400).sm),(79,Z3 Qo0),(78,Z3 Qhd),(83,Z3 Qkb),(75,Z3 Qgh),(84,Z3 Qgk),(86,Z3 Qo9),(87,Z3 Qn3),(58,Z3 Qto),(59,Z3 Qzf),(57,Z3 Qrb),(62,Z3 Qzo)],anns:=[],still:=[]}
theorem Qni:lxP.Ok cx.bare:=Lx.Qz (PC.Q2 (Qfy 400).bare) (Lx.Qz (Qsu) (Lx.Qz (Qso) (Lx.Qz (Qs9) (Lx.Qz (Qry) (Lx.Qz (Qy0) (Lx.Qz (Qqh) (Lx.Qz (Qwe) (Lx.Qz (Zkn) (Lx.Qz (Zp0) (Lx.Qz (Zjb) (Lx.Qz (Zlq) (Lx.Zk))))))))))))
def Qre:(Int×Int×Int×Int×Int×Int)×Int:=((84390,36500,1220,300,200,8),1)
def Qtu:List (ByteArray×ByteArray)×Int:=([(bs [48],bs [48]),(bs [50,54,47,53,51],bs [50]),(bs [55,47,53,51],bs [50,51,47,55]),(bs [52,49,47,53,51],bs [51,57,47,55]),(bs [50,50,47,53,51],bs [52,56,47,55]),(bs [51,47,53,51],bs [53,55,47,55]),(bs [51,55,47,53,51],bs [55,51,47,55]),(bs [49,56,47,53,51],bs [56,50,47,55])],0)
abbrev Qp3:List Qk:=[.agg [.int .i64,.int .i64,.int .i64,.int .i64,.int .i64,.int .i64],.val (.int .i64)]
abbrev Qlu:List Qk:=[.val (.seq [.str,.str]),.val (.int .i64)]
theorem Zkv:Zf cx.bare lxP 3000 .leaf f33 (Qd f33) Qp3 Qlu Qre=some Qtu:=by kernel_rfl
noncomputable def Qq3:PC:={ats:=Qp3,rts:=Qlu,code:=Go.Sx.one (ats:=Qp3) (rts:=Qlu) Qre Qtu}
theorem Zbh:Qw cx.bare 33 Qq3:=Qw.Qi (Cx.Qm Qj) Qni (n:=3000) (an:=.leaf) (fn:=f33) (c:=Qd f33) (by kernel_rfl) (by kernel_rfl) (fun a y h=>by obtain⟨h1,h2⟩:=Go.Sx.one_some h;subst h1;subst h2;exact Zkv) (by kernel_rfl)
def Qxg:(Int×Int×Int×Int×Int×Int)×Int:=((4,1,2,0,0,2),2)
def Qxj:(ByteArray×ByteArray)×Int:=((bs [48],bs [49]),0)
abbrev Qla:List Qk:=[.agg [.int .i64,.int .i64,.int .i64,.int .i64,.int .i64,.int .i64],.val (.int .i64)]
abbrev Qlp:List Qk:=[.agg [.str,.str],.val (.int .i64)]
theorem Zac:Zf cx.bare Qs 3000 .leaf f34 (Qd f34) Qla Qlp Qxg=some Qxj:=by kernel_rfl
noncomputable def Qsp:PC:={ats:=Qla,rts:=Qlp,code:=Go.Sx.one (ats:=Qla) (rts:=Qlp) Qxg Qxj}
theorem Zcy:Qw cx.bare 34 Qsp:=Qw.Qi (Cx.Qm Qj) Qt (n:=3000) (an:=.leaf) (fn:=f34) (c:=Qd f34) (by kernel_rfl) (by kernel_rfl) (fun a y h=>by obtain⟨h1,h2⟩:=Go.Sx.one_some h;subst h1;subst h2;exact Zac) (by kernel_rfl)
def Que:(Int×Int×Int×Int×Int×Int)×Int×Int:=((84390,36500,1220,300,200,8),1,116000)
def Qum:(Int×Int×ByteArray×ByteArray)×Int:=((0,1,bs [50,52,48,48,47,55],bs [50,48,56,48,48,47,53,51]),0)
abbrev Ql3:List Qk:=[.agg [.int .i64,.int .i64,.int .i64,.int .i64,.int .i64,.int .i64],.val (.int .i64),.val (.int .i64)]
abbrev Qgz:List Qk:=[.agg [.int .i64,.int .i64,.str,.str],.val (.int .i64)]
theorem Zst:Zf cx.bare lxP 3000 .leaf f35 (Qd f35) Ql3 Qgz Que=some Qum:=by kernel_rfl
noncomputable def Qp2:PC:={ats:=Ql3,rts:=Qgz,code:=Go.Sx.one (ats:=Ql3) (rts:=Qgz) Que Qum}
theorem Zn0:Qw cx.bare 35 Qp2:=Qw.Qi (Cx.Qm Qj) Qni (n:=3000) (an:=.leaf) (fn:=f35) (c:=Qd f35) (by kernel_rfl) (by kernel_rfl) (fun a y h=>by obtain⟨h1,h2⟩:=Go.Sx.one_some h;subst h1;subst h2;exact Zst) (by kernel_rfl)
def Qdu:(Int×Int×Int×Int×Int×Int)×Int×Int:=((84390,36500,1220,300,200,8),1,115630)
def Qex:(Int×Int×ByteArray×ByteArray)×Int:=((0,0,bs [],bs []),24)
abbrev Qnk:List Qk:=[.agg [.int .i64,.int .i64,.int .i64,.int .i64,.int .i64,.int .i64],.val (.int .i64),.val (.int .i64)]
abbrev Qgp:List Qk:=[.agg [.int .i64,.int .i64,.str,.str],.val (.int .i64)]
theorem Znu:Zf cx.bare lxP 3000 .leaf f35 (Qd f35) Qnk Qgp Qdu=some Qex:=by kernel_rfl
noncomputable def Zpt:PC:={ats:=Qnk,rts:=Qgp,code:=Go.Sx.one (ats:=Qnk) (rts:=Qgp) Qdu Qex}
theorem Zhl:Qw cx.bare 35 Zpt:=Qw.Qi (Cx.Qm Qj) Qni (n:=3000) (an:=.leaf) (fn:=f35) (c:=Qd f35) (by kernel_rfl) (by kernel_rfl) (fun a y h=>by obtain⟨h1,h2⟩:=Go.Sx.one_some h;subst h1;subst h2;exact Znu) (by kernel_rfl)
def Quk:(Int×Int×Int×Int)×Int:=((13000,8500,10500,10),100000)
def Qsr:List Int×Int:=([13000,21500,30000,38500,47000,55500,64000,72500,81000,89500],0)
abbrev Qg2:List Qk:=[.agg [.int .i64,.int .i64,.int .i64,.int .i64],.val (.int .i64)]
abbrev Qog:List Qk:=[.val (.seq [.int .i64]),.val (.int .i64)]
theorem Zrn:Zf cx.bare Qs 3000 .leaf f7 (Qd f7) Qg2 Qog Quk=some Qsr:=by kernel_rfl
noncomputable def Qro:PC:={ats:=Qg2,rts:=Qog,code:=Go.Sx.one (ats:=Qg2) (rts:=Qog) Quk Qsr}
theorem Zbd:Qw cx.bare 7 Qro:=Qw.Qi (Cx.Qm Qj) Qt (n:=3000) (an:=.leaf) (fn:=f7) (c:=Qd f7) (by kernel_rfl) (by kernel_rfl) (fun a y h=>by obtain⟨h1,h2⟩:=Go.Sx.one_some h;subst h1;subst h2;exact Zrn) (by kernel_rfl)
def Qw2:List Int×Int×Int:=([100000,100000,100000,100000],30000,20000)
def Qvk:List (Int×Int)×Int:=([(80000,110000),(180000,210000),(280000,310000)],0)
abbrev Qjj:List Qk:=[.agg [.seq [.int .i64],.int .i64,.int .i64]]
abbrev Qmr:List Qk:=[.val (.seq [.int .i64,.int .i64]),.val (.int .i64)]
theorem Za3:Zf cx.bare Qs 3000 .leaf f36 (Qd f36) Qjj Qmr Qw2=some Qvk:=by kernel_rfl
noncomputable def Qyy:PC:={ats:=Qjj,rts:=Qmr,code:=Go.Sx.one (ats:=Qjj) (rts:=Qmr) Qw2 Qvk}
theorem Zo5:Qw cx.bare 36 Qyy:=Qw.Qi (Cx.Qm Qj) Qt (n:=3000) (an:=.leaf) (fn:=f36) (c:=Qd f36) (by kernel_rfl) (by kernel_rfl) (fun a y h=>by obtain⟨h1,h2⟩:=Go.Sx.one_some h;subst h1;subst h2;exact Za3) (by kernel_rfl)
noncomputable def Qrn(F:Nat):Lx:={ext:=[],anns:=[],still:=[]}
noncomputable def c88(F:Nat)(a:List (Int×Int)):Option (List (Int×Int)):=
 bif Decidable.decide (List.length a=(0:Nat))then(Option.bind (gd (Decidable.decide (List.length (Go.Sx.nilT (Int×Int)++a)*(16:Nat)≤(140737488355328:Nat))) (gd (Decidable.decide (List.length (Go.Sx.nilT (Int×Int)++a)≤(9223372036854775807:Nat))) (gd (Decidable.decide (List.length (Go.Sx.nilT (Int×Int)++a)=List.length (Go.Sx.nilT (Int×Int)++a))) (some (Go.Sx.nilT (Int×Int)++a))))) fun(v4:List (Int×Int))=>gd (Go.Sx.listEq (Go.Sx.Els.eqv (Go.Sx.Ty.int Go.IntKind.i64::Go.Sx.Ty.int Go.IntKind.i64::Go.Sx.nilT Go.Sx.Ty)) (Go.Sx.nilT (Int×Int)) v4) (some (Go.Sx.nilT (Int×Int))))else(gd (Decidable.decide (List.length (Go.Sx.nilT (Int×Int)++a)*(16:Nat)≤(140737488355328:Nat))) (gd (Decidable.decide (List.length (Go.Sx.nilT (Int×Int)++a)≤(9223372036854775807:Nat))) (gd (Decidable.decide (List.length (Go.Sx.nilT (Int×Int)++a)=List.length (Go.Sx.nilT (Int×Int)++a))) (some (Go.Sx.nilT (Int×Int)++a)))))
noncomputable def Qxv(F:Nat):PF:={ats:=[.val (.seq [.int .i64,.int .i64])],ty:=91,row:=[.int .i64,.int .i64],code:=c88 F}
theorem Zrg(F:Nat):(Qrn F).Ok cx:=Lx.Zk
theorem Zqs(F:Nat)(a:List (Int×Int)):codeF cx (Qrn F) 1000 .leaf f88 (Qd f88) [.val (.seq [.int .i64,.int .i64])] 91 [.int .i64,.int .i64] a=c88 F a:=by kernel_rfl
theorem Zph(F:Nat):Kf cx 88 (Qxv F):=Kf.Qi Qj (Zrg F) (n:=1000) (an:=.leaf) (fn:=f88) (c:=Qd f88) (by kernel_rfl) (by kernel_rfl) (fun a y h=>(Zqs F a).trans h) (by kernel_rfl)
noncomputable def lx1:Lx:={ext:=[(121,(Qbx 400).sm),(88,(Qxv 400).sm)],anns:=[],still:=[]}
theorem Qtk:lx1.Ok cx.bare:=Lx.Qz (PC.Q2 (Qfy 400).bare) (Lx.Qz (PF.Q2 (Zph 400).bare) Lx.Zk)
def Qq7:(List Int×Int×Int)×List (Int×Int)×Int:=(([100000,100000,100000,100000],30000,20000),[(95000,110000),(200000,210000),(310000,320000)],420000)
def Qq5:List Int×Int:=([110000,100000,110000,100000],0)
abbrev Qlg:List Qk:=[.agg [.seq [.int .i64],.int .i64,.int .i64],.val (.seq [.int .i64,.int .i64]),.val (.int .i64)]
abbrev Qmd:List Qk:=[.val (.seq [.int .i64]),.val (.int .i64)]
theorem Zal:Zf cx.bare lx1 3000 .leaf f38 (Qd f38) Qlg Qmd Qq7=some Qq5:=by kernel_rfl
noncomputable def Qtt:PC:={ats:=Qlg,rts:=Qmd,code:=Go.Sx.one (ats:=Qlg) (rts:=Qmd) Qq7 Qq5}
theorem Zee:Qw cx.bare 38 Qtt:=Qw.Qi (Cx.Qm Qj) Qtk (n:=3000) (an:=.leaf) (fn:=f38) (c:=Qd f38) (by kernel_rfl) (by kernel_rfl) (fun a y h=>by obtain⟨h1,h2⟩:=Go.Sx.one_some h;subst h1;subst h2;exact Zal) (by kernel_rfl)
def Qui:(List Int×Int×Int)×List (Int×Int)×Int:=(([100000,100000,100000,100000],30000,20000),[(95000,110000),(200000,210000),(310000,320000)],420000)
def Qtj:List ByteArray×Int:=([bs [49,57,47,50,50],bs [50,49,47,50,48],bs [49],bs [57,47,49,48]],0)
abbrev Qpr:List Qk:=[.agg [.seq [.int .i64],.int .i64,.int .i64],.val (.seq [.int .i64,.int .i64]),.val (.int .i64)]
abbrev Qj1:List Qk:=[.val (.seq [.str]),.val (.int .i64)]
theorem Zca:Zf cx.bare lx1 3000 .leaf f40 (Qd f40) Qpr Qj1 Qui=some Qtj:=by kernel_rfl
noncomputable def Qt8:PC:={ats:=Qpr,rts:=Qj1,code:=Go.Sx.one (ats:=Qpr) (rts:=Qj1) Qui Qtj}
theorem Zha:Qw cx.bare 40 Qt8:=Qw.Qi (Cx.Qm Qj) Qtk (n:=3000) (an:=.leaf) (fn:=f40) (c:=Qd f40) (by kernel_rfl) (by kernel_rfl) (fun a y h=>by obtain⟨h1,h2⟩:=Go.Sx.one_some h;subst h1;subst h2;exact Zca) (by kernel_rfl)
def Qx4:(List Int×Int×Int)×List (Int×Int)×Int:=(([100000,100000,100000,100000],30000,20000),[(95000,110000),(210001,210000),(310000,320000)],420000)
def Qsy:Int×Int:=(1,18)
abbrev Qms:List Qk:=[.agg [.seq [.int .i64],.int .i64,.int .i64],.val (.seq [.int .i64,.int .i64]),.val (.int .i64)]
abbrev Qiw:List Qk:=[.val (.int .i64),.val (.int .i64)]
theorem Zfe:Zf cx.bare Qs 3000 .leaf f41 (Qd f41) Qms Qiw Qx4=some Qsy:=by kernel_rfl
noncomputable def Qrj:PC:={ats:=Qms,rts:=Qiw,code:=Go.Sx.one (ats:=Qms) (rts:=Qiw) Qx4 Qsy}
theorem Zn6:Qw cx.bare 41 Qrj:=Qw.Qi (Cx.Qm Qj) Qt (n:=3000) (an:=.leaf) (fn:=f41) (c:=Qd f41) (by kernel_rfl) (by kernel_rfl) (fun a y h=>by obtain⟨h1,h2⟩:=Go.Sx.one_some h;subst h1;subst h2;exact Zfe) (by kernel_rfl)
def Qqm:(List Int×Int×Int)×List (List ByteArray)×List ByteArray:=(([100000,100000,100000,100000],30000,20000),[[bs [97],bs [98],bs [99],bs [100]],[bs [98],bs [97],bs [101],bs [102]],[bs [97],bs [98],bs [103],bs [100]]],[bs [101],bs [102],bs [103]])
def Qqz:Int×Int:=(2,18)
abbrev Qkl:List Qk:=[.agg [.seq [.int .i64],.int .i64,.int .i64],.val (.seq [.seq [.str]]),.val (.seq [.str])]
abbrev Qnm:List Qk:=[.val (.int .i64),.val (.int .i64)]
theorem Zcz:Zf cx.bare Qs 3000 .leaf f18 (Qd f18) Qkl Qnm Qqm=some Qqz:=by kernel_rfl
noncomputable def Qx9:PC:={ats:=Qkl,rts:=Qnm,code:=Go.Sx.one (ats:=Qkl) (rts:=Qnm) Qqm Qqz}
theorem Zr9:Qw cx.bare 18 Qx9:=Qw.Qi (Cx.Qm Qj) Qt (n:=3000) (an:=.leaf) (fn:=f18) (c:=Qd f18) (by kernel_rfl) (by kernel_rfl) (fun a y h=>by obtain⟨h1,h2⟩:=Go.Sx.one_some h;subst h1;subst h2;exact Zcz) (by kernel_rfl)
noncomputable def lxB:Lx:={ext:=[(28,Qxe.sm),(30,Qvd.sm),(31,Qq4.sm),(32,Qwv.sm),(33,Qq3.sm),(34,Qsp.sm),(35,(Qp2.at Qdu Qex).sm),(7,Qro.sm),(36,Qyy.sm),(38,Qtt.sm),(40,Qt8.sm),(41,Qrj.sm),(18,Qx9.sm),(10,(Qs5 400).sm)],anns:=[(2000038,.leaf),(2000040,.leaf),(2000041,.leaf),(2000018,.leaf),(2000036,.leaf)],still:=[]}
theorem Zi9:lxB.Ok cx.bare:=Lx.Qz (PC.Q2 Zne) (Lx.Qz (PC.Q2 Zgm) (Lx.Qz (PC.Q2 Zpx) (Lx.Qz (PC.Q2 Zp1) (Lx.Qz (PC.Q2 Zbh) (Lx.Qz (PC.Q2 Zcy) (Lx.Qz (PC.Q2 (Qw.at2 (pc:=Qp2) Zn0 (a0:=Qdu) (y0:=Qex) Zhl)) (Lx.Qz (PC.Q2 Zbd) (Lx.Qz (PC.Q2 Zo5) (Lx.Qz (PC.Q2 Zee) (Lx.Qz (PC.Q2 Zha) (Lx.Qz (PC.Q2 Zn6) (Lx.Qz (PC.Q2 Zr9) (Lx.Qz (PC.Q2 (Zq1 400).bare) (Lx.Zk))))))))))))))
noncomputable def c11(F:Nat)(a:Unit):Option Bool:=some true
noncomputable def Qvm(F:Nat):PC:={ats:=[],rts:=[.val .bool],code:=c11 F}
theorem Zqv:Zf cx.bare lxB 3000 .leaf f11 (Qd f11) [] [.val .bool] ()=some true:=by kernel_rfl
theorem Zo1(F:Nat):Qw cx 11 (Qvm F):=Qw.full (Qw.Qi (Cx.Qm Qj) Zi9 (n:=3000) (an:=.leaf) (fn:=f11) (c:=Qd f11) (by kernel_rfl) (by kernel_rfl) (fun a y h=>Zqv.trans h) (by kernel_rfl))
end Go.Proofs.Tryz
