/- strconv.Itoa in this program is the library's. awake of chapter 7: data And further parts. -/
import Derived.Test.YtebmfbcngojbdaaGreatDoorXTkCx
import Derived.Test.YtebmfbcngojbdaaGreatDoorXSxQh
set_option maxRecDepth 1000000
set_option linter.unusedVariables false
namespace Go.Proofs.Tryz
open Go Go.Sx
def Qp5:Go.Shelf.Ren:=⟨fun|171=>121|243=>145|246=>160|283=>161|284=>162|285=>163|286=>164|129=>137|317=>171|318=>172|319=>173|320=>174|337=>176|338=>177|n=>n,fun|3=>3|9=>9|2=>2|4=>4|171=>215|0=>0|53=>172|37=>180|5=>5|173=>217|212=>226|51=>197|20=>20|213=>227|46=>164|232=>229|233=>230|n=>n,fun|17=>3|18=>5|19=>6|n=>n⟩
theorem Zig:Go.Proofs.LaysM.n171 cx.P Qp5:={
 mixed:=by kernel_rfl
 f129:=Tryz.func137.trans (congrArg some (by kernel_rfl))
 f171:=Tryz.func121.trans (congrArg some (by kernel_rfl))
 f243:=Tryz.func145.trans (congrArg some (by kernel_rfl))
 f246:=Tryz.func160.trans (congrArg some (by kernel_rfl))
 f283:=Tryz.func161.trans (congrArg some (by kernel_rfl))
 f284:=Tryz.func162.trans (congrArg some (by kernel_rfl))
 f285:=Tryz.func163.trans (congrArg some (by kernel_rfl))
 f286:=Tryz.func164.trans (congrArg some (by kernel_rfl))
 f317:=Tryz.func171.trans (congrArg some (by kernel_rfl))
 f318:=Tryz.func172.trans (congrArg some (by kernel_rfl))
 f319:=Tryz.func173.trans (congrArg some (by kernel_rfl))
 f320:=Tryz.func174.trans (congrArg some (by kernel_rfl))
 f337:=Tryz.func176.trans (congrArg some (by kernel_rfl))
 f338:=Tryz.func177.trans (congrArg some (by kernel_rfl))
 t0:=Tryz.underlying0
 a0:=Tryz.isAgg0
 z0:=Tryz.sizeOf0
 v0:=Tryz.zeroValue0
 t2:=Tryz.underlying2
 a2:=Tryz.isAgg2
 z2:=Tryz.sizeOf2
 v2:=Tryz.zeroValue2
 t3:=Tryz.underlying3
 a3:=Tryz.isAgg3
 z3:=Tryz.sizeOf3
 v3:=Tryz.zeroValue3
 t4:=Tryz.underlying4
 a4:=Tryz.isAgg4
 z4:=Tryz.sizeOf4
 v4:=Tryz.zeroValue4
 t5:=Tryz.underlying5
 a5:=Tryz.isAgg5
 z5:=Tryz.sizeOf5
 v5:=Tryz.zeroValue5
 t9:=Tryz.underlying9
 a9:=Tryz.isAgg9
 z9:=Tryz.sizeOf9
 v9:=Tryz.zeroValue9
 t20:=Tryz.underlying20
 a20:=Tryz.isAgg20
 z20:=Tryz.sizeOf20
 v20:=Tryz.zeroValue20
 t37:=Tryz.underlying180
 a37:=Tryz.isAgg180
 z37:=Tryz.sizeOf180
 v37:=Tryz.zeroValue180
 t46:=Tryz.underlying164
 a46:=Tryz.isAgg164
 z46:=Tryz.sizeOf164
 v46:=Tryz.zeroValue164
 t51:=Tryz.underlying197
 a51:=Tryz.isAgg197
 z51:=Tryz.sizeOf197
 v51:=Tryz.zeroValue197
 t53:=Tryz.underlying172
 a53:=Tryz.isAgg172
 z53:=Tryz.sizeOf172
 v53:=Tryz.zeroValue172
 t171:=Tryz.underlying215
 a171:=Tryz.isAgg215
 z171:=Tryz.sizeOf215
 v171:=Tryz.zeroValue215
 t173:=Tryz.underlying217
 a173:=Tryz.isAgg217
 z173:=Tryz.sizeOf217
 v173:=Tryz.zeroValue217
 t212:=Tryz.underlying226
 a212:=Tryz.isAgg226
 z212:=Tryz.sizeOf226
 v212:=Tryz.zeroValue226
 t213:=Tryz.underlying227
 a213:=Tryz.isAgg227
 z213:=Tryz.sizeOf227
 t232:=Tryz.underlying229
 a232:=Tryz.isAgg229
 z232:=Tryz.sizeOf229
 v232:=Tryz.zeroValue229
 t233:=Tryz.underlying230
 a233:=Tryz.isAgg230
 z233:=Tryz.sizeOf230
 v233:=Tryz.zeroValue230
 g17:=by kernel_rfl
 g18:=by kernel_rfl
 g19:=by kernel_rfl
 i0:=by kernel_rfl
 i2:=by kernel_rfl
 i3:=by kernel_rfl
 i4:=by kernel_rfl
 i5:=by kernel_rfl
 i9:=by kernel_rfl
 i20:=by kernel_rfl
 i37:=by kernel_rfl
 i46:=by kernel_rfl
 i51:=by kernel_rfl
 i53:=by kernel_rfl
 i171:=by kernel_rfl
 i173:=by kernel_rfl
 i212:=by kernel_rfl
 i232:=by kernel_rfl
 i233:=by kernel_rfl
 m17:=by kernel_rfl
 m18:=by kernel_rfl
 m19:=by kernel_rfl}
noncomputable def Zki(F:Nat)(a:Int):Option ByteArray:=Qev a
noncomputable def Qal(F:Nat):PC:={ats:=[.val (.int .i64)],rts:=[.val .str],code:=Zki F}
theorem Qeo(F:Nat):Qz cx 121 (Qal F):=Zhm (ρ0:=Qp5) rfl Zig ⟨f121,by kernel_rfl⟩ (gt:=3) (by kernel_rfl) (by kernel_rfl)
def bs(l:List UInt8):ByteArray:=⟨⟨l⟩⟩
noncomputable def Qs:Lx:={ext:=[(121,(Qal 400).sm)],anns:=[],still:=[]}
theorem Qt:Qs.Ok cx.bare:=Lx.Za (PC.Zn (Qeo 400).bare) Lx.Y4
def Qu1:(Int×Int×Int×Int×Int×Int)×Int:=((84390,36500,1220,300,200,8),3)
def Qp4:Int×Int:=(39140,0)
abbrev Qjm:List Qi:=[.agg [.int .i64,.int .i64,.int .i64,.int .i64,.int .i64,.int .i64],.val (.int .i64)]
abbrev Qhs:List Qi:=[.val (.int .i64),.val (.int .i64)]
theorem Zi8:Zx cx.bare Qs 3000 .leaf f28 (Qe f28) Qjm Qhs Qu1=some Qp4:=by kernel_rfl
noncomputable def Quu:PC:={ats:=Qjm,rts:=Qhs,code:=Go.Sx.one (ats:=Qjm) (rts:=Qhs) Qu1 Qp4}
theorem Zmp:Qz cx.bare 28 Quu:=Qz.Qk (Cx.Qm Ql) Qt (n:=3000) (an:=.leaf) (fn:=f28) (c:=Qe f28) (by kernel_rfl) (by kernel_rfl) (fun a y h=>by obtain⟨h1,h2⟩:=Go.Sx.one_some h;subst h1;subst h2;exact Zi8) (by kernel_rfl)
def Qol:(Int×Int×Int×Int×Int×Int)×Int:=((84390,36500,1220,300,200,8),1)
def Qqr:(ByteArray×ByteArray)×Int:=((bs [50,49,49,57,57,55,52,48,47,53,51],bs [50,56,48,48,54,54,48,47,55]),0)
abbrev Qll:List Qi:=[.agg [.int .i64,.int .i64,.int .i64,.int .i64,.int .i64,.int .i64],.val (.int .i64)]
abbrev Qm4:List Qi:=[.agg [.str,.str],.val (.int .i64)]
theorem Qzw:Zx cx.bare Qs 3000 .leaf f30 (Qe f30) Qll Qm4 Qol=some Qqr:=by kernel_rfl
noncomputable def Qqe:PC:={ats:=Qll,rts:=Qm4,code:=Go.Sx.one (ats:=Qll) (rts:=Qm4) Qol Qqr}
theorem Zf3:Qz cx.bare 30 Qqe:=Qz.Qk (Cx.Qm Ql) Qt (n:=3000) (an:=.leaf) (fn:=f30) (c:=Qe f30) (by kernel_rfl) (by kernel_rfl) (fun a y h=>by obtain⟨h1,h2⟩:=Go.Sx.one_some h;subst h1;subst h2;exact Qzw) (by kernel_rfl)
def Qpj:(Int×Int×Int×Int×Int×Int)×Int×Int:=((84390,36500,1220,300,200,8),2,1)
def Qrh:(ByteArray×ByteArray)×Int:=((bs [49,56,54,52,56,48,47,53,51],bs [51,53,50,48]),0)
abbrev Qnu:List Qi:=[.agg [.int .i64,.int .i64,.int .i64,.int .i64,.int .i64,.int .i64],.val (.int .i64),.val (.int .i64)]
abbrev Qhu:List Qi:=[.agg [.str,.str],.val (.int .i64)]
theorem Zed:Zx cx.bare Qs 3000 .leaf f31 (Qe f31) Qnu Qhu Qpj=some Qrh:=by kernel_rfl
noncomputable def Qtd:PC:={ats:=Qnu,rts:=Qhu,code:=Go.Sx.one (ats:=Qnu) (rts:=Qhu) Qpj Qrh}
theorem Zcd:Qz cx.bare 31 Qtd:=Qz.Qk (Cx.Qm Ql) Qt (n:=3000) (an:=.leaf) (fn:=f31) (c:=Qe f31) (by kernel_rfl) (by kernel_rfl) (fun a y h=>by obtain⟨h1,h2⟩:=Go.Sx.one_some h;subst h1;subst h2;exact Zed) (by kernel_rfl)
def Qfn:LC:=⟨[.agg #[.int .i64 1120,.slice none 0 0,.int .i64 1,.slice none 0 0],.agg #[.int .i64 333,.slice none 0 0,.int .i64 106,.slice none 0 0]],[.agg #[.int .i64 186480,.slice none 0 0,.int .i64 53,.slice none 0 0]]⟩
theorem Qwi:Qp cx.bare Qs 3000 .leaf f79 (Qe f79) Qfn=some ():=by kernel_rfl
theorem Zb9:Qg cx.bare 79 Qfn:=Qg.Qk (Cx.Qm Ql) Qt (n:=3000) (an:=.leaf) (fn:=f79) (c:=Qe f79) (by kernel_rfl) (by kernel_rfl) Qwi (by kernel_rfl)
def Qh9:LC:=⟨[.agg #[.int .i64 1120,.slice none 0 0,.int .i64 1,.slice none 0 0],.agg #[.int .i64 22,.slice none 0 0,.int .i64 7,.slice none 0 0]],[.agg #[.int .i64 3520,.slice none 0 0,.int .i64 1,.slice none 0 0]]⟩
theorem Zi1:Qp cx.bare Qs 3000 .leaf f79 (Qe f79) Qh9=some ():=by kernel_rfl
theorem Za2:Qg cx.bare 79 Qh9:=Qg.Qk (Cx.Qm Ql) Qt (n:=3000) (an:=.leaf) (fn:=f79) (c:=Qe f79) (by kernel_rfl) (by kernel_rfl) Zi1 (by kernel_rfl)
def Qhd:LC:=⟨[.agg #[.int .i64 2340,.slice none 0 0,.int .i64 1,.slice none 0 0],.agg #[.int .i64 333,.slice none 0 0,.int .i64 106,.slice none 0 0]],[.agg #[.int .i64 389610,.slice none 0 0,.int .i64 53,.slice none 0 0]]⟩
theorem Zgr:Qp cx.bare Qs 3000 .leaf f79 (Qe f79) Qhd=some ():=by kernel_rfl
theorem Qyy:Qg cx.bare 79 Qhd:=Qg.Qk (Cx.Qm Ql) Qt (n:=3000) (an:=.leaf) (fn:=f79) (c:=Qe f79) (by kernel_rfl) (by kernel_rfl) Zgr (by kernel_rfl)
def Qk3:LC:=⟨[.agg #[.int .i64 2340,.slice none 0 0,.int .i64 1,.slice none 0 0],.agg #[.int .i64 22,.slice none 0 0,.int .i64 7,.slice none 0 0]],[.agg #[.int .i64 51480,.slice none 0 0,.int .i64 7,.slice none 0 0]]⟩
theorem Zhd:Qp cx.bare Qs 3000 .leaf f79 (Qe f79) Qk3=some ():=by kernel_rfl
theorem Zfk:Qg cx.bare 79 Qk3:=Qg.Qk (Cx.Qm Ql) Qt (n:=3000) (an:=.leaf) (fn:=f79) (c:=Qe f79) (by kernel_rfl) (by kernel_rfl) Zhd (by kernel_rfl)
def Qlm:LC:=⟨[.agg #[.int .i64 3560,.slice none 0 0,.int .i64 1,.slice none 0 0],.agg #[.int .i64 333,.slice none 0 0,.int .i64 106,.slice none 0 0]],[.agg #[.int .i64 592740,.slice none 0 0,.int .i64 53,.slice none 0 0]]⟩
theorem Zil:Qp cx.bare Qs 3000 .leaf f79 (Qe f79) Qlm=some ():=by kernel_rfl
theorem Qzy:Qg cx.bare 79 Qlm:=Qg.Qk (Cx.Qm Ql) Qt (n:=3000) (an:=.leaf) (fn:=f79) (c:=Qe f79) (by kernel_rfl) (by kernel_rfl) Zil (by kernel_rfl)
def Qhl:LC:=⟨[.agg #[.int .i64 3560,.slice none 0 0,.int .i64 1,.slice none 0 0],.agg #[.int .i64 22,.slice none 0 0,.int .i64 7,.slice none 0 0]],[.agg #[.int .i64 78320,.slice none 0 0,.int .i64 7,.slice none 0 0]]⟩
theorem Zc5:Qp cx.bare Qs 3000 .leaf f79 (Qe f79) Qhl=some ():=by kernel_rfl
theorem Zae:Qg cx.bare 79 Qhl:=Qg.Qk (Cx.Qm Ql) Qt (n:=3000) (an:=.leaf) (fn:=f79) (c:=Qe f79) (by kernel_rfl) (by kernel_rfl) Zc5 (by kernel_rfl)
def Qiq:LC:=⟨[.agg #[.int .i64 4780,.slice none 0 0,.int .i64 1,.slice none 0 0],.agg #[.int .i64 333,.slice none 0 0,.int .i64 106,.slice none 0 0]],[.agg #[.int .i64 795870,.slice none 0 0,.int .i64 53,.slice none 0 0]]⟩
theorem Zfr:Qp cx.bare Qs 3000 .leaf f79 (Qe f79) Qiq=some ():=by kernel_rfl
theorem Zf0:Qg cx.bare 79 Qiq:=Qg.Qk (Cx.Qm Ql) Qt (n:=3000) (an:=.leaf) (fn:=f79) (c:=Qe f79) (by kernel_rfl) (by kernel_rfl) Zfr (by kernel_rfl)
def Qkh:LC:=⟨[.agg #[.int .i64 4780,.slice none 0 0,.int .i64 1,.slice none 0 0],.agg #[.int .i64 22,.slice none 0 0,.int .i64 7,.slice none 0 0]],[.agg #[.int .i64 105160,.slice none 0 0,.int .i64 7,.slice none 0 0]]⟩
theorem Zla:Qp cx.bare Qs 3000 .leaf f79 (Qe f79) Qkh=some ():=by kernel_rfl
theorem Qyz:Qg cx.bare 79 Qkh:=Qg.Qk (Cx.Qm Ql) Qt (n:=3000) (an:=.leaf) (fn:=f79) (c:=Qe f79) (by kernel_rfl) (by kernel_rfl) Zla (by kernel_rfl)
def Qgh:LC:=⟨[.agg #[.int .i64 6000,.slice none 0 0,.int .i64 1,.slice none 0 0],.agg #[.int .i64 333,.slice none 0 0,.int .i64 106,.slice none 0 0]],[.agg #[.int .i64 999000,.slice none 0 0,.int .i64 53,.slice none 0 0]]⟩
theorem Zjh:Qp cx.bare Qs 3000 .leaf f79 (Qe f79) Qgh=some ():=by kernel_rfl
theorem Qzi:Qg cx.bare 79 Qgh:=Qg.Qk (Cx.Qm Ql) Qt (n:=3000) (an:=.leaf) (fn:=f79) (c:=Qe f79) (by kernel_rfl) (by kernel_rfl) Zjh (by kernel_rfl)
def Qnv:LC:=⟨[.agg #[.int .i64 6000,.slice none 0 0,.int .i64 1,.slice none 0 0],.agg #[.int .i64 22,.slice none 0 0,.int .i64 7,.slice none 0 0]],[.agg #[.int .i64 132000,.slice none 0 0,.int .i64 7,.slice none 0 0]]⟩
theorem Zfo:Qp cx.bare Qs 3000 .leaf f79 (Qe f79) Qnv=some ():=by kernel_rfl
theorem Zg4:Qg cx.bare 79 Qnv:=Qg.Qk (Cx.Qm Ql) Qt (n:=3000) (an:=.leaf) (fn:=f79) (c:=Qe f79) (by kernel_rfl) (by kernel_rfl) Zfo (by kernel_rfl)
def Qnq:LC:=⟨[.agg #[.int .i64 7220,.slice none 0 0,.int .i64 1,.slice none 0 0],.agg #[.int .i64 333,.slice none 0 0,.int .i64 106,.slice none 0 0]],[.agg #[.int .i64 1202130,.slice none 0 0,.int .i64 53,.slice none 0 0]]⟩
theorem Zi4:Qp cx.bare Qs 3000 .leaf f79 (Qe f79) Qnq=some ():=by kernel_rfl
theorem Zcp:Qg cx.bare 79 Qnq:=Qg.Qk (Cx.Qm Ql) Qt (n:=3000) (an:=.leaf) (fn:=f79) (c:=Qe f79) (by kernel_rfl) (by kernel_rfl) Zi4 (by kernel_rfl)
def Qim:LC:=⟨[.agg #[.int .i64 7220,.slice none 0 0,.int .i64 1,.slice none 0 0],.agg #[.int .i64 22,.slice none 0 0,.int .i64 7,.slice none 0 0]],[.agg #[.int .i64 158840,.slice none 0 0,.int .i64 7,.slice none 0 0]]⟩
theorem Qya:Qp cx.bare Qs 3000 .leaf f79 (Qe f79) Qim=some ():=by kernel_rfl
theorem Zk9:Qg cx.bare 79 Qim:=Qg.Qk (Cx.Qm Ql) Qt (n:=3000) (an:=.leaf) (fn:=f79) (c:=Qe f79) (by kernel_rfl) (by kernel_rfl) Qya (by kernel_rfl)
def Qlu:LC:=⟨[.agg #[.int .i64 8440,.slice none 0 0,.int .i64 1,.slice none 0 0],.agg #[.int .i64 333,.slice none 0 0,.int .i64 106,.slice none 0 0]],[.agg #[.int .i64 1405260,.slice none 0 0,.int .i64 53,.slice none 0 0]]⟩
theorem Qwd:Qp cx.bare Qs 3000 .leaf f79 (Qe f79) Qlu=some ():=by kernel_rfl
theorem Qz3:Qg cx.bare 79 Qlu:=Qg.Qk (Cx.Qm Ql) Qt (n:=3000) (an:=.leaf) (fn:=f79) (c:=Qe f79) (by kernel_rfl) (by kernel_rfl) Qwd (by kernel_rfl)
def Qnk:LC:=⟨[.agg #[.int .i64 8440,.slice none 0 0,.int .i64 1,.slice none 0 0],.agg #[.int .i64 22,.slice none 0 0,.int .i64 7,.slice none 0 0]],[.agg #[.int .i64 185680,.slice none 0 0,.int .i64 7,.slice none 0 0]]⟩
theorem Zhu:Qp cx.bare Qs 3000 .leaf f79 (Qe f79) Qnk=some ():=by kernel_rfl
theorem Zbm:Qg cx.bare 79 Qnk:=Qg.Qk (Cx.Qm Ql) Qt (n:=3000) (an:=.leaf) (fn:=f79) (c:=Qe f79) (by kernel_rfl) (by kernel_rfl) Zhu (by kernel_rfl)
def Qgx:LC:=⟨[.agg #[.int .i64 1,.slice none 0 0,.int .i64 1,.slice none 0 0],.agg #[.int .i64 333,.slice none 0 0,.int .i64 106,.slice none 0 0]],[.agg #[.int .i64 333,.slice none 0 0,.int .i64 106,.slice none 0 0]]⟩
theorem Qws:Qp cx.bare Qs 3000 .leaf f79 (Qe f79) Qgx=some ():=by kernel_rfl
theorem Zcb:Qg cx.bare 79 Qgx:=Qg.Qk (Cx.Qm Ql) Qt (n:=3000) (an:=.leaf) (fn:=f79) (c:=Qe f79) (by kernel_rfl) (by kernel_rfl) Qws (by kernel_rfl)
def Qip:LC:=⟨[.agg #[.int .i64 1,.slice none 0 0,.int .i64 1,.slice none 0 0],.agg #[.int .i64 22,.slice none 0 0,.int .i64 7,.slice none 0 0]],[.agg #[.int .i64 22,.slice none 0 0,.int .i64 7,.slice none 0 0]]⟩
theorem Zj7:Qp cx.bare Qs 3000 .leaf f79 (Qe f79) Qip=some ():=by kernel_rfl
theorem Qxj:Qg cx.bare 79 Qip:=Qg.Qk (Cx.Qm Ql) Qt (n:=3000) (an:=.leaf) (fn:=f79) (c:=Qe f79) (by kernel_rfl) (by kernel_rfl) Zj7 (by kernel_rfl)
def Qga:LC:=⟨[.agg #[.int .i64 333,.slice none 0 0,.int .i64 106,.slice none 0 0],.agg #[.int .i64 36800,.slice none 0 0,.int .i64 1,.slice none 0 0]],[.agg #[.int .i64 6127200,.slice none 0 0,.int .i64 53,.slice none 0 0]]⟩
theorem Qxs:Qp cx.bare Qs 3000 .leaf f79 (Qe f79) Qga=some ():=by kernel_rfl
theorem Zll:Qg cx.bare 79 Qga:=Qg.Qk (Cx.Qm Ql) Qt (n:=3000) (an:=.leaf) (fn:=f79) (c:=Qe f79) (by kernel_rfl) (by kernel_rfl) Qxs (by kernel_rfl)
def Qh4:LC:=⟨[.agg #[.int .i64 10599870,.slice none 0 0,.int .i64 53,.slice none 0 0],.agg #[.int .i64 2,.slice none 0 0,.int .i64 1,.slice none 0 0]],[.agg #[.int .i64 21199740,.slice none 0 0,.int .i64 53,.slice none 0 0]]⟩
theorem Qze:Qp cx.bare Qs 3000 .leaf f79 (Qe f79) Qh4=some ():=by kernel_rfl
theorem Zcr:Qg cx.bare 79 Qh4:=Qg.Qk (Cx.Qm Ql) Qt (n:=3000) (an:=.leaf) (fn:=f79) (c:=Qe f79) (by kernel_rfl) (by kernel_rfl) Qze (by kernel_rfl)
def Qfh:LC:=⟨[.agg #[.int .i64 116000,.slice none 0 0,.int .i64 1,.slice none 0 0],.agg #[.int .i64 53,.slice none 0 0,.int .i64 21199740,.slice none 0 0]],[.agg #[.int .i64 307400,.slice none 0 0,.int .i64 1059987,.slice none 0 0]]⟩
theorem Zi6:Qp cx.bare Qs 3000 .leaf f79 (Qe f79) Qfh=some ():=by kernel_rfl
theorem Qv5:Qg cx.bare 79 Qfh:=Qg.Qk (Cx.Qm Ql) Qt (n:=3000) (an:=.leaf) (fn:=f79) (c:=Qe f79) (by kernel_rfl) (by kernel_rfl) Zi6 (by kernel_rfl)
def Qnc:LC:=⟨[.agg #[.int .i64 21199740,.slice none 0 0,.int .i64 53,.slice none 0 0],.agg #[.int .i64 0,.slice none 0 0,.int .i64 1,.slice none 0 0]],[.agg #[.int .i64 0,.slice none 0 0,.int .i64 1,.slice none 0 0]]⟩
theorem Zl0:Qp cx.bare Qs 3000 .leaf f79 (Qe f79) Qnc=some ():=by kernel_rfl
theorem Qys:Qg cx.bare 79 Qnc:=Qg.Qk (Cx.Qm Ql) Qt (n:=3000) (an:=.leaf) (fn:=f79) (c:=Qe f79) (by kernel_rfl) (by kernel_rfl) Zl0 (by kernel_rfl)
def Qij:LC:=⟨[.agg #[.int .i64 22,.slice none 0 0,.int .i64 7,.slice none 0 0],.agg #[.int .i64 36800,.slice none 0 0,.int .i64 1,.slice none 0 0]],[.agg #[.int .i64 809600,.slice none 0 0,.int .i64 7,.slice none 0 0]]⟩
theorem Zcf:Qp cx.bare Qs 3000 .leaf f79 (Qe f79) Qij=some ():=by kernel_rfl
theorem Zc4:Qg cx.bare 79 Qij:=Qg.Qk (Cx.Qm Ql) Qt (n:=3000) (an:=.leaf) (fn:=f79) (c:=Qe f79) (by kernel_rfl) (by kernel_rfl) Zcf (by kernel_rfl)
def Qlg:LC:=⟨[.agg #[.int .i64 1400330,.slice none 0 0,.int .i64 7,.slice none 0 0],.agg #[.int .i64 2,.slice none 0 0,.int .i64 1,.slice none 0 0]],[.agg #[.int .i64 2800660,.slice none 0 0,.int .i64 7,.slice none 0 0]]⟩
theorem Qzc:Qp cx.bare Qs 3000 .leaf f79 (Qe f79) Qlg=some ():=by kernel_rfl
theorem Zj8:Qg cx.bare 79 Qlg:=Qg.Qk (Cx.Qm Ql) Qt (n:=3000) (an:=.leaf) (fn:=f79) (c:=Qe f79) (by kernel_rfl) (by kernel_rfl) Qzc (by kernel_rfl)
def Qiu:LC:=⟨[.agg #[.int .i64 116000,.slice none 0 0,.int .i64 1,.slice none 0 0],.agg #[.int .i64 7,.slice none 0 0,.int .i64 2800660,.slice none 0 0]],[.agg #[.int .i64 40600,.slice none 0 0,.int .i64 140033,.slice none 0 0]]⟩
theorem Zb1:Qp cx.bare Qs 3000 .leaf f79 (Qe f79) Qiu=some ():=by kernel_rfl
theorem Zkm:Qg cx.bare 79 Qiu:=Qg.Qk (Cx.Qm Ql) Qt (n:=3000) (an:=.leaf) (fn:=f79) (c:=Qe f79) (by kernel_rfl) (by kernel_rfl) Zb1 (by kernel_rfl)
def Qlo:LC:=⟨[.agg #[.int .i64 2800660,.slice none 0 0,.int .i64 7,.slice none 0 0],.agg #[.int .i64 0,.slice none 0 0,.int .i64 1,.slice none 0 0]],[.agg #[.int .i64 0,.slice none 0 0,.int .i64 1,.slice none 0 0]]⟩
theorem Zfe:Qp cx.bare Qs 3000 .leaf f79 (Qe f79) Qlo=some ():=by kernel_rfl
theorem Zif:Qg cx.bare 79 Qlo:=Qg.Qk (Cx.Qm Ql) Qt (n:=3000) (an:=.leaf) (fn:=f79) (c:=Qe f79) (by kernel_rfl) (by kernel_rfl) Zfe (by kernel_rfl)
def Qnw:LC:=⟨[.agg #[.int .i64 115630,.slice none 0 0,.int .i64 1,.slice none 0 0],.agg #[.int .i64 53,.slice none 0 0,.int .i64 21199740,.slice none 0 0]],[.agg #[.int .i64 612839,.slice none 0 0,.int .i64 2119974,.slice none 0 0]]⟩
theorem Zcj:Qp cx.bare Qs 3000 .leaf f79 (Qe f79) Qnw=some ():=by kernel_rfl
theorem Zij:Qg cx.bare 79 Qnw:=Qg.Qk (Cx.Qm Ql) Qt (n:=3000) (an:=.leaf) (fn:=f79) (c:=Qe f79) (by kernel_rfl) (by kernel_rfl) Zcj (by kernel_rfl)
def Qne:LC:=⟨[.agg #[.int .i64 115630,.slice none 0 0,.int .i64 1,.slice none 0 0],.agg #[.int .i64 7,.slice none 0 0,.int .i64 2800660,.slice none 0 0]],[.agg #[.int .i64 80941,.slice none 0 0,.int .i64 280066,.slice none 0 0]]⟩
theorem Ze1:Qp cx.bare Qs 3000 .leaf f79 (Qe f79) Qne=some ():=by kernel_rfl
theorem Zkz:Qg cx.bare 79 Qne:=Qg.Qk (Cx.Qm Ql) Qt (n:=3000) (an:=.leaf) (fn:=f79) (c:=Qe f79) (by kernel_rfl) (by kernel_rfl) Ze1 (by kernel_rfl)
def Qk1:LC:=⟨[.agg #[.int .i64 0,.slice none 0 0,.int .i64 1,.slice none 0 0],.agg #[.int .i64 186480,.slice none 0 0,.int .i64 53,.slice none 0 0]],[.agg #[.int .i64 186480,.slice none 0 0,.int .i64 53,.slice none 0 0]]⟩
theorem Qxc:Qp cx.bare Qs 3000 .leaf f78 (Qe f78) Qk1=some ():=by kernel_rfl
theorem Zgs:Qg cx.bare 78 Qk1:=Qg.Qk (Cx.Qm Ql) Qt (n:=3000) (an:=.leaf) (fn:=f78) (c:=Qe f78) (by kernel_rfl) (by kernel_rfl) Qxc (by kernel_rfl)
def Qkx:LC:=⟨[.agg #[.int .i64 0,.slice none 0 0,.int .i64 1,.slice none 0 0],.agg #[.int .i64 3520,.slice none 0 0,.int .i64 1,.slice none 0 0]],[.agg #[.int .i64 3520,.slice none 0 0,.int .i64 1,.slice none 0 0]]⟩
theorem Zb0:Qp cx.bare Qs 3000 .leaf f78 (Qe f78) Qkx=some ():=by kernel_rfl
theorem Zam:Qg cx.bare 78 Qkx:=Qg.Qk (Cx.Qm Ql) Qt (n:=3000) (an:=.leaf) (fn:=f78) (c:=Qe f78) (by kernel_rfl) (by kernel_rfl) Zb0 (by kernel_rfl)
def Qnb:LC:=⟨[.agg #[.int .i64 (-3518),.slice none 0 0,.int .i64 1,.slice none 0 0],.agg #[.int .i64 186480,.slice none 0 0,.int .i64 53,.slice none 0 0]],[.agg #[.int .i64 26,.slice none 0 0,.int .i64 53,.slice none 0 0]]⟩
theorem Zec:Qp cx.bare Qs 3000 .leaf f78 (Qe f78) Qnb=some ():=by kernel_rfl
theorem Qyw:Qg cx.bare 78 Qnb:=Qg.Qk (Cx.Qm Ql) Qt (n:=3000) (an:=.leaf) (fn:=f78) (c:=Qe f78) (by kernel_rfl) (by kernel_rfl) Zec (by kernel_rfl)
def Qiz:LC:=⟨[.agg #[.int .i64 (-3518),.slice none 0 0,.int .i64 1,.slice none 0 0],.agg #[.int .i64 3520,.slice none 0 0,.int .i64 1,.slice none 0 0]],[.agg #[.int .i64 2,.slice none 0 0,.int .i64 1,.slice none 0 0]]⟩
theorem Zkp:Qp cx.bare Qs 3000 .leaf f78 (Qe f78) Qiz=some ():=by kernel_rfl
theorem Qyj:Qg cx.bare 78 Qiz:=Qg.Qk (Cx.Qm Ql) Qt (n:=3000) (an:=.leaf) (fn:=f78) (c:=Qe f78) (by kernel_rfl) (by kernel_rfl) Zkp (by kernel_rfl)
def Qf3:LC:=⟨[.agg #[.int .i64 0,.slice none 0 0,.int .i64 1,.slice none 0 0],.agg #[.int .i64 389610,.slice none 0 0,.int .i64 53,.slice none 0 0]],[.agg #[.int .i64 389610,.slice none 0 0,.int .i64 53,.slice none 0 0]]⟩
theorem Qv6:Qp cx.bare Qs 3000 .leaf f78 (Qe f78) Qf3=some ():=by kernel_rfl
theorem Zgc:Qg cx.bare 78 Qf3:=Qg.Qk (Cx.Qm Ql) Qt (n:=3000) (an:=.leaf) (fn:=f78) (c:=Qe f78) (by kernel_rfl) (by kernel_rfl) Qv6 (by kernel_rfl)
def Qjz:LC:=⟨[.agg #[.int .i64 0,.slice none 0 0,.int .i64 1,.slice none 0 0],.agg #[.int .i64 51480,.slice none 0 0,.int .i64 7,.slice none 0 0]],[.agg #[.int .i64 51480,.slice none 0 0,.int .i64 7,.slice none 0 0]]⟩
theorem Zj5:Qp cx.bare Qs 3000 .leaf f78 (Qe f78) Qjz=some ():=by kernel_rfl
theorem Zir:Qg cx.bare 78 Qjz:=Qg.Qk (Cx.Qm Ql) Qt (n:=3000) (an:=.leaf) (fn:=f78) (c:=Qe f78) (by kernel_rfl) (by kernel_rfl) Zj5 (by kernel_rfl)
def Qi7:LC:=⟨[.agg #[.int .i64 (-7351),.slice none 0 0,.int .i64 1,.slice none 0 0],.agg #[.int .i64 389610,.slice none 0 0,.int .i64 53,.slice none 0 0]],[.agg #[.int .i64 7,.slice none 0 0,.int .i64 53,.slice none 0 0]]⟩
theorem Zml:Qp cx.bare Qs 3000 .leaf f78 (Qe f78) Qi7=some ():=by kernel_rfl
theorem Zlp:Qg cx.bare 78 Qi7:=Qg.Qk (Cx.Qm Ql) Qt (n:=3000) (an:=.leaf) (fn:=f78) (c:=Qe f78) (by kernel_rfl) (by kernel_rfl) Zml (by kernel_rfl)
def Qin:LC:=⟨[.agg #[.int .i64 (-7351),.slice none 0 0,.int .i64 1,.slice none 0 0],.agg #[.int .i64 51480,.slice none 0 0,.int .i64 7,.slice none 0 0]],[.agg #[.int .i64 23,.slice none 0 0,.int .i64 7,.slice none 0 0]]⟩
theorem Zgv:Qp cx.bare Qs 3000 .leaf f78 (Qe f78) Qin=some ():=by kernel_rfl
theorem Zbh:Qg cx.bare 78 Qin:=Qg.Qk (Cx.Qm Ql) Qt (n:=3000) (an:=.leaf) (fn:=f78) (c:=Qe f78) (by kernel_rfl) (by kernel_rfl) Zgv (by kernel_rfl)
def Qnf:LC:=⟨[.agg #[.int .i64 0,.slice none 0 0,.int .i64 1,.slice none 0 0],.agg #[.int .i64 592740,.slice none 0 0,.int .i64 53,.slice none 0 0]],[.agg #[.int .i64 592740,.slice none 0 0,.int .i64 53,.slice none 0 0]]⟩
theorem Zgp:Qp cx.bare Qs 3000 .leaf f78 (Qe f78) Qnf=some ():=by kernel_rfl
theorem Zj0:Qg cx.bare 78 Qnf:=Qg.Qk (Cx.Qm Ql) Qt (n:=3000) (an:=.leaf) (fn:=f78) (c:=Qe f78) (by kernel_rfl) (by kernel_rfl) Zgp (by kernel_rfl)
def Qmh:LC:=⟨[.agg #[.int .i64 0,.slice none 0 0,.int .i64 1,.slice none 0 0],.agg #[.int .i64 78320,.slice none 0 0,.int .i64 7,.slice none 0 0]],[.agg #[.int .i64 78320,.slice none 0 0,.int .i64 7,.slice none 0 0]]⟩
theorem Zac:Qp cx.bare Qs 3000 .leaf f78 (Qe f78) Qmh=some ():=by kernel_rfl
theorem Zhq:Qg cx.bare 78 Qmh:=Qg.Qk (Cx.Qm Ql) Qt (n:=3000) (an:=.leaf) (fn:=f78) (c:=Qe f78) (by kernel_rfl) (by kernel_rfl) Zac (by kernel_rfl)
def Qj9:LC:=⟨[.agg #[.int .i64 (-11183),.slice none 0 0,.int .i64 1,.slice none 0 0],.agg #[.int .i64 592740,.slice none 0 0,.int .i64 53,.slice none 0 0]],[.agg #[.int .i64 41,.slice none 0 0,.int .i64 53,.slice none 0 0]]⟩
theorem Ze3:Qp cx.bare Qs 3000 .leaf f78 (Qe f78) Qj9=some ():=by kernel_rfl
theorem Zge:Qg cx.bare 78 Qj9:=Qg.Qk (Cx.Qm Ql) Qt (n:=3000) (an:=.leaf) (fn:=f78) (c:=Qe f78) (by kernel_rfl) (by kernel_rfl) Ze3 (by kernel_rfl)
def Qkb:LC:=⟨[.agg #[.int .i64 (-11183),.slice none 0 0,.int .i64 1,.slice none 0 0],.agg #[.int .i64 78320,.slice none 0 0,.int .i64 7,.slice none 0 0]],[.agg #[.int .i64 39,.slice none 0 0,.int .i64 7,.slice none 0 0]]⟩
theorem Zas:Qp cx.bare Qs 3000 .leaf f78 (Qe f78) Qkb=some ():=by kernel_rfl
theorem Zap:Qg cx.bare 78 Qkb:=Qg.Qk (Cx.Qm Ql) Qt (n:=3000) (an:=.leaf) (fn:=f78) (c:=Qe f78) (by kernel_rfl) (by kernel_rfl) Zas (by kernel_rfl)
def Qe9:LC:=⟨[.agg #[.int .i64 0,.slice none 0 0,.int .i64 1,.slice none 0 0],.agg #[.int .i64 795870,.slice none 0 0,.int .i64 53,.slice none 0 0]],[.agg #[.int .i64 795870,.slice none 0 0,.int .i64 53,.slice none 0 0]]⟩
theorem Qxi:Qp cx.bare Qs 3000 .leaf f78 (Qe f78) Qe9=some ():=by kernel_rfl
theorem Zmm:Qg cx.bare 78 Qe9:=Qg.Qk (Cx.Qm Ql) Qt (n:=3000) (an:=.leaf) (fn:=f78) (c:=Qe f78) (by kernel_rfl) (by kernel_rfl) Qxi (by kernel_rfl)
def Qe8:LC:=⟨[.agg #[.int .i64 0,.slice none 0 0,.int .i64 1,.slice none 0 0],.agg #[.int .i64 105160,.slice none 0 0,.int .i64 7,.slice none 0 0]],[.agg #[.int .i64 105160,.slice none 0 0,.int .i64 7,.slice none 0 0]]⟩
theorem Qwg:Qp cx.bare Qs 3000 .leaf f78 (Qe f78) Qe8=some ():=by kernel_rfl
theorem Zix:Qg cx.bare 78 Qe8:=Qg.Qk (Cx.Qm Ql) Qt (n:=3000) (an:=.leaf) (fn:=f78) (c:=Qe f78) (by kernel_rfl) (by kernel_rfl) Qwg (by kernel_rfl)
def Qhf:LC:=⟨[.agg #[.int .i64 (-15016),.slice none 0 0,.int .i64 1,.slice none 0 0],.agg #[.int .i64 795870,.slice none 0 0,.int .i64 53,.slice none 0 0]],[.agg #[.int .i64 22,.slice none 0 0,.int .i64 53,.slice none 0 0]]⟩
theorem Zkx:Qp cx.bare Qs 3000 .leaf f78 (Qe f78) Qhf=some ():=by kernel_rfl
theorem Qzz:Qg cx.bare 78 Qhf:=Qg.Qk (Cx.Qm Ql) Qt (n:=3000) (an:=.leaf) (fn:=f78) (c:=Qe f78) (by kernel_rfl) (by kernel_rfl) Zkx (by kernel_rfl)
def Qkr:LC:=⟨[.agg #[.int .i64 (-15016),.slice none 0 0,.int .i64 1,.slice none 0 0],.agg #[.int .i64 105160,.slice none 0 0,.int .i64 7,.slice none 0 0]],[.agg #[.int .i64 48,.slice none 0 0,.int .i64 7,.slice none 0 0]]⟩
theorem Zek:Qp cx.bare Qs 3000 .leaf f78 (Qe f78) Qkr=some ():=by kernel_rfl
theorem Qx2:Qg cx.bare 78 Qkr:=Qg.Qk (Cx.Qm Ql) Qt (n:=3000) (an:=.leaf) (fn:=f78) (c:=Qe f78) (by kernel_rfl) (by kernel_rfl) Zek (by kernel_rfl)
def Qjn:LC:=⟨[.agg #[.int .i64 0,.slice none 0 0,.int .i64 1,.slice none 0 0],.agg #[.int .i64 999000,.slice none 0 0,.int .i64 53,.slice none 0 0]],[.agg #[.int .i64 999000,.slice none 0 0,.int .i64 53,.slice none 0 0]]⟩
theorem Qvz:Qp cx.bare Qs 3000 .leaf f78 (Qe f78) Qjn=some ():=by kernel_rfl
theorem Zau:Qg cx.bare 78 Qjn:=Qg.Qk (Cx.Qm Ql) Qt (n:=3000) (an:=.leaf) (fn:=f78) (c:=Qe f78) (by kernel_rfl) (by kernel_rfl) Qvz (by kernel_rfl)
def Qma:LC:=⟨[.agg #[.int .i64 0,.slice none 0 0,.int .i64 1,.slice none 0 0],.agg #[.int .i64 132000,.slice none 0 0,.int .i64 7,.slice none 0 0]],[.agg #[.int .i64 132000,.slice none 0 0,.int .i64 7,.slice none 0 0]]⟩
theorem Zje:Qp cx.bare Qs 3000 .leaf f78 (Qe f78) Qma=some ():=by kernel_rfl
theorem Qwy:Qg cx.bare 78 Qma:=Qg.Qk (Cx.Qm Ql) Qt (n:=3000) (an:=.leaf) (fn:=f78) (c:=Qe f78) (by kernel_rfl) (by kernel_rfl) Zje (by kernel_rfl)
def Qi3:LC:=⟨[.agg #[.int .i64 (-18849),.slice none 0 0,.int .i64 1,.slice none 0 0],.agg #[.int .i64 999000,.slice none 0 0,.int .i64 53,.slice none 0 0]],[.agg #[.int .i64 3,.slice none 0 0,.int .i64 53,.slice none 0 0]]⟩
theorem Zb7:Qp cx.bare Qs 3000 .leaf f78 (Qe f78) Qi3=some ():=by kernel_rfl
theorem Zg5:Qg cx.bare 78 Qi3:=Qg.Qk (Cx.Qm Ql) Qt (n:=3000) (an:=.leaf) (fn:=f78) (c:=Qe f78) (by kernel_rfl) (by kernel_rfl) Zb7 (by kernel_rfl)
def Qn5:LC:=⟨[.agg #[.int .i64 (-18849),.slice none 0 0,.int .i64 1,.slice none 0 0],.agg #[.int .i64 132000,.slice none 0 0,.int .i64 7,.slice none 0 0]],[.agg #[.int .i64 57,.slice none 0 0,.int .i64 7,.slice none 0 0]]⟩
theorem Zdu:Qp cx.bare Qs 3000 .leaf f78 (Qe f78) Qn5=some ():=by kernel_rfl
theorem Zj6:Qg cx.bare 78 Qn5:=Qg.Qk (Cx.Qm Ql) Qt (n:=3000) (an:=.leaf) (fn:=f78) (c:=Qe f78) (by kernel_rfl) (by kernel_rfl) Zdu (by kernel_rfl)
def Qfp:LC:=⟨[.agg #[.int .i64 0,.slice none 0 0,.int .i64 1,.slice none 0 0],.agg #[.int .i64 1202130,.slice none 0 0,.int .i64 53,.slice none 0 0]],[.agg #[.int .i64 1202130,.slice none 0 0,.int .i64 53,.slice none 0 0]]⟩
theorem Zdw:Qp cx.bare Qs 3000 .leaf f78 (Qe f78) Qfp=some ():=by kernel_rfl
theorem Qwm:Qg cx.bare 78 Qfp:=Qg.Qk (Cx.Qm Ql) Qt (n:=3000) (an:=.leaf) (fn:=f78) (c:=Qe f78) (by kernel_rfl) (by kernel_rfl) Zdw (by kernel_rfl)
def Qhc:LC:=⟨[.agg #[.int .i64 0,.slice none 0 0,.int .i64 1,.slice none 0 0],.agg #[.int .i64 158840,.slice none 0 0,.int .i64 7,.slice none 0 0]],[.agg #[.int .i64 158840,.slice none 0 0,.int .i64 7,.slice none 0 0]]⟩
theorem Zii:Qp cx.bare Qs 3000 .leaf f78 (Qe f78) Qhc=some ():=by kernel_rfl
theorem Zl3:Qg cx.bare 78 Qhc:=Qg.Qk (Cx.Qm Ql) Qt (n:=3000) (an:=.leaf) (fn:=f78) (c:=Qe f78) (by kernel_rfl) (by kernel_rfl) Zii (by kernel_rfl)
def Qfj:LC:=⟨[.agg #[.int .i64 (-22681),.slice none 0 0,.int .i64 1,.slice none 0 0],.agg #[.int .i64 1202130,.slice none 0 0,.int .i64 53,.slice none 0 0]],[.agg #[.int .i64 37,.slice none 0 0,.int .i64 53,.slice none 0 0]]⟩
theorem Zhk:Qp cx.bare Qs 3000 .leaf f78 (Qe f78) Qfj=some ():=by kernel_rfl
theorem Ze4:Qg cx.bare 78 Qfj:=Qg.Qk (Cx.Qm Ql) Qt (n:=3000) (an:=.leaf) (fn:=f78) (c:=Qe f78) (by kernel_rfl) (by kernel_rfl) Zhk (by kernel_rfl)
def Qfu:LC:=⟨[.agg #[.int .i64 (-22681),.slice none 0 0,.int .i64 1,.slice none 0 0],.agg #[.int .i64 158840,.slice none 0 0,.int .i64 7,.slice none 0 0]],[.agg #[.int .i64 73,.slice none 0 0,.int .i64 7,.slice none 0 0]]⟩
theorem Qxn:Qp cx.bare Qs 3000 .leaf f78 (Qe f78) Qfu=some ():=by kernel_rfl
theorem Zgn:Qg cx.bare 78 Qfu:=Qg.Qk (Cx.Qm Ql) Qt (n:=3000) (an:=.leaf) (fn:=f78) (c:=Qe f78) (by kernel_rfl) (by kernel_rfl) Qxn (by kernel_rfl)
def Qjc:LC:=⟨[.agg #[.int .i64 0,.slice none 0 0,.int .i64 1,.slice none 0 0],.agg #[.int .i64 1405260,.slice none 0 0,.int .i64 53,.slice none 0 0]],[.agg #[.int .i64 1405260,.slice none 0 0,.int .i64 53,.slice none 0 0]]⟩
theorem Zct:Qp cx.bare Qs 3000 .leaf f78 (Qe f78) Qjc=some ():=by kernel_rfl
theorem Zmv:Qg cx.bare 78 Qjc:=Qg.Qk (Cx.Qm Ql) Qt (n:=3000) (an:=.leaf) (fn:=f78) (c:=Qe f78) (by kernel_rfl) (by kernel_rfl) Zct (by kernel_rfl)
def Qil:LC:=⟨[.agg #[.int .i64 0,.slice none 0 0,.int .i64 1,.slice none 0 0],.agg #[.int .i64 185680,.slice none 0 0,.int .i64 7,.slice none 0 0]],[.agg #[.int .i64 185680,.slice none 0 0,.int .i64 7,.slice none 0 0]]⟩
theorem Qvx:Qp cx.bare Qs 3000 .leaf f78 (Qe f78) Qil=some ():=by kernel_rfl
theorem Zaj:Qg cx.bare 78 Qil:=Qg.Qk (Cx.Qm Ql) Qt (n:=3000) (an:=.leaf) (fn:=f78) (c:=Qe f78) (by kernel_rfl) (by kernel_rfl) Qvx (by kernel_rfl)
def Qhw:LC:=⟨[.agg #[.int .i64 (-26514),.slice none 0 0,.int .i64 1,.slice none 0 0],.agg #[.int .i64 1405260,.slice none 0 0,.int .i64 53,.slice none 0 0]],[.agg #[.int .i64 18,.slice none 0 0,.int .i64 53,.slice none 0 0]]⟩
theorem Zie:Qp cx.bare Qs 3000 .leaf f78 (Qe f78) Qhw=some ():=by kernel_rfl
theorem Zlk:Qg cx.bare 78 Qhw:=Qg.Qk (Cx.Qm Ql) Qt (n:=3000) (an:=.leaf) (fn:=f78) (c:=Qe f78) (by kernel_rfl) (by kernel_rfl) Zie (by kernel_rfl)
def Qjl:LC:=⟨[.agg #[.int .i64 (-26514),.slice none 0 0,.int .i64 1,.slice none 0 0],.agg #[.int .i64 185680,.slice none 0 0,.int .i64 7,.slice none 0 0]],[.agg #[.int .i64 82,.slice none 0 0,.int .i64 7,.slice none 0 0]]⟩
theorem Zf8:Qp cx.bare Qs 3000 .leaf f78 (Qe f78) Qjl=some ():=by kernel_rfl
theorem Zgt:Qg cx.bare 78 Qjl:=Qg.Qk (Cx.Qm Ql) Qt (n:=3000) (an:=.leaf) (fn:=f78) (c:=Qe f78) (by kernel_rfl) (by kernel_rfl) Zf8 (by kernel_rfl)
end Go.Proofs.Tryz
