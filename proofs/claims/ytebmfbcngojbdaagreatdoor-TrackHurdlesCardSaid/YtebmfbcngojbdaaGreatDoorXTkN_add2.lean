/- closed runs of (stadion/num.Frac).Add closed runs of (stadion/num.Frac).Cmp And further parts. -/
import Derived.Test.YtebmfbcngojbdaaGreatDoorXTkIt
import Derived.Test.YtebmfbcngojbdaaGreatDoorXSxQh
set_option maxRecDepth 1000000
set_option linter.unusedVariables false
namespace Go.Proofs.Tryz
open Go Go.Sx
def Qmp:LC:=⟨[.agg #[.int .i64 0,.slice none 0 0,.int .i64 1,.slice none 0 0],.agg #[.int .i64 333,.slice none 0 0,.int .i64 106,.slice none 0 0]],[.agg #[.int .i64 333,.slice none 0 0,.int .i64 106,.slice none 0 0]]⟩
theorem Zag:Qp cx.bare Qs 3000 .leaf f78 (Qe f78) Qmp=some ():=by kernel_rfl
theorem Zbj:Qg cx.bare 78 Qmp:=Qg.Qk (Cx.Qm Ql) Qt (n:=3000) (an:=.leaf) (fn:=f78) (c:=Qe f78) (by kernel_rfl) (by kernel_rfl) Zag (by kernel_rfl)
def Qlc:LC:=⟨[.agg #[.int .i64 0,.slice none 0 0,.int .i64 1,.slice none 0 0],.agg #[.int .i64 22,.slice none 0 0,.int .i64 7,.slice none 0 0]],[.agg #[.int .i64 22,.slice none 0 0,.int .i64 7,.slice none 0 0]]⟩
theorem Ze2:Qp cx.bare Qs 3000 .leaf f78 (Qe f78) Qlc=some ():=by kernel_rfl
theorem Zhz:Qg cx.bare 78 Qlc:=Qg.Qk (Cx.Qm Ql) Qt (n:=3000) (an:=.leaf) (fn:=f78) (c:=Qe f78) (by kernel_rfl) (by kernel_rfl) Ze2 (by kernel_rfl)
def Qk2:LC:=⟨[.agg #[.int .i64 6127200,.slice none 0 0,.int .i64 53,.slice none 0 0],.agg #[.int .i64 84390,.slice none 0 0,.int .i64 1,.slice none 0 0]],[.agg #[.int .i64 10599870,.slice none 0 0,.int .i64 53,.slice none 0 0]]⟩
theorem Zlr:Qp cx.bare Qs 3000 .leaf f78 (Qe f78) Qk2=some ():=by kernel_rfl
theorem Zgo:Qg cx.bare 78 Qk2:=Qg.Qk (Cx.Qm Ql) Qt (n:=3000) (an:=.leaf) (fn:=f78) (c:=Qe f78) (by kernel_rfl) (by kernel_rfl) Zlr (by kernel_rfl)
def Qf5:LC:=⟨[.agg #[.int .i64 116000,.slice none 0 0,.int .i64 1,.slice none 0 0],.agg #[.int .i64 0,.slice none 0 0,.int .i64 1,.slice none 0 0]],[.agg #[.int .i64 116000,.slice none 0 0,.int .i64 1,.slice none 0 0]]⟩
theorem Zkw:Qp cx.bare Qs 3000 .leaf f78 (Qe f78) Qf5=some ():=by kernel_rfl
theorem Qxa:Qg cx.bare 78 Qf5:=Qg.Qk (Cx.Qm Ql) Qt (n:=3000) (an:=.leaf) (fn:=f78) (c:=Qe f78) (by kernel_rfl) (by kernel_rfl) Zkw (by kernel_rfl)
def Qha:LC:=⟨[.agg #[.int .i64 116000,.slice none 0 0,.int .i64 1,.slice none 0 0],.agg #[.int .i64 (-6127200),.slice none 0 0,.int .i64 53,.slice none 0 0]],[.agg #[.int .i64 20800,.slice none 0 0,.int .i64 53,.slice none 0 0]]⟩
theorem Zg6:Qp cx.bare Qs 3000 .leaf f78 (Qe f78) Qha=some ():=by kernel_rfl
theorem Qwv:Qg cx.bare 78 Qha:=Qg.Qk (Cx.Qm Ql) Qt (n:=3000) (an:=.leaf) (fn:=f78) (c:=Qe f78) (by kernel_rfl) (by kernel_rfl) Zg6 (by kernel_rfl)
def Qje:LC:=⟨[.agg #[.int .i64 809600,.slice none 0 0,.int .i64 7,.slice none 0 0],.agg #[.int .i64 84390,.slice none 0 0,.int .i64 1,.slice none 0 0]],[.agg #[.int .i64 1400330,.slice none 0 0,.int .i64 7,.slice none 0 0]]⟩
theorem Zh9:Qp cx.bare Qs 3000 .leaf f78 (Qe f78) Qje=some ():=by kernel_rfl
theorem Zio:Qg cx.bare 78 Qje:=Qg.Qk (Cx.Qm Ql) Qt (n:=3000) (an:=.leaf) (fn:=f78) (c:=Qe f78) (by kernel_rfl) (by kernel_rfl) Zh9 (by kernel_rfl)
def Qgo:LC:=⟨[.agg #[.int .i64 116000,.slice none 0 0,.int .i64 1,.slice none 0 0],.agg #[.int .i64 (-809600),.slice none 0 0,.int .i64 7,.slice none 0 0]],[.agg #[.int .i64 2400,.slice none 0 0,.int .i64 7,.slice none 0 0]]⟩
theorem Zkh:Qp cx.bare Qs 3000 .leaf f78 (Qe f78) Qgo=some ():=by kernel_rfl
theorem Zg9:Qg cx.bare 78 Qgo:=Qg.Qk (Cx.Qm Ql) Qt (n:=3000) (an:=.leaf) (fn:=f78) (c:=Qe f78) (by kernel_rfl) (by kernel_rfl) Zkh (by kernel_rfl)
def Qfr:LC:=⟨[.agg #[.int .i64 115630,.slice none 0 0,.int .i64 1,.slice none 0 0],.agg #[.int .i64 0,.slice none 0 0,.int .i64 1,.slice none 0 0]],[.agg #[.int .i64 115630,.slice none 0 0,.int .i64 1,.slice none 0 0]]⟩
theorem Qxb:Qp cx.bare Qs 3000 .leaf f78 (Qe f78) Qfr=some ():=by kernel_rfl
theorem Zji:Qg cx.bare 78 Qfr:=Qg.Qk (Cx.Qm Ql) Qt (n:=3000) (an:=.leaf) (fn:=f78) (c:=Qe f78) (by kernel_rfl) (by kernel_rfl) Qxb (by kernel_rfl)
def Qjw:LC:=⟨[.agg #[.int .i64 115630,.slice none 0 0,.int .i64 1,.slice none 0 0],.agg #[.int .i64 (-6127200),.slice none 0 0,.int .i64 53,.slice none 0 0]],[.agg #[.int .i64 1190,.slice none 0 0,.int .i64 53,.slice none 0 0]]⟩
theorem Zbn:Qp cx.bare Qs 3000 .leaf f78 (Qe f78) Qjw=some ():=by kernel_rfl
theorem Zjs:Qg cx.bare 78 Qjw:=Qg.Qk (Cx.Qm Ql) Qt (n:=3000) (an:=.leaf) (fn:=f78) (c:=Qe f78) (by kernel_rfl) (by kernel_rfl) Zbn (by kernel_rfl)
def Qfa:LC:=⟨[.agg #[.int .i64 0,.slice none 0 0,.int .i64 1,.slice none 0 0],.agg #[.int .i64 0,.slice none 0 0,.int .i64 1,.slice none 0 0]],[.int .i64 0]⟩
theorem Zmr:Qp cx.bare Qs 3000 .leaf f83 (Qe f83) Qfa=some ():=by kernel_rfl
theorem Zjc:Qg cx.bare 83 Qfa:=Qg.Qk (Cx.Qm Ql) Qt (n:=3000) (an:=.leaf) (fn:=f83) (c:=Qe f83) (by kernel_rfl) (by kernel_rfl) Zmr (by kernel_rfl)
def Qg9:LC:=⟨[.agg #[.int .i64 26,.slice none 0 0,.int .i64 53,.slice none 0 0],.agg #[.int .i64 2,.slice none 0 0,.int .i64 1,.slice none 0 0]],[.int .i64 (-1)]⟩
theorem Qv3:Qp cx.bare Qs 3000 .leaf f83 (Qe f83) Qg9=some ():=by kernel_rfl
theorem Qyu:Qg cx.bare 83 Qg9:=Qg.Qk (Cx.Qm Ql) Qt (n:=3000) (an:=.leaf) (fn:=f83) (c:=Qe f83) (by kernel_rfl) (by kernel_rfl) Qv3 (by kernel_rfl)
def Qhj:LC:=⟨[.agg #[.int .i64 7,.slice none 0 0,.int .i64 53,.slice none 0 0],.agg #[.int .i64 23,.slice none 0 0,.int .i64 7,.slice none 0 0]],[.int .i64 (-1)]⟩
theorem Zmo:Qp cx.bare Qs 3000 .leaf f83 (Qe f83) Qhj=some ():=by kernel_rfl
theorem Zkf:Qg cx.bare 83 Qhj:=Qg.Qk (Cx.Qm Ql) Qt (n:=3000) (an:=.leaf) (fn:=f83) (c:=Qe f83) (by kernel_rfl) (by kernel_rfl) Zmo (by kernel_rfl)
def Qif:LC:=⟨[.agg #[.int .i64 41,.slice none 0 0,.int .i64 53,.slice none 0 0],.agg #[.int .i64 39,.slice none 0 0,.int .i64 7,.slice none 0 0]],[.int .i64 (-1)]⟩
theorem Zlf:Qp cx.bare Qs 3000 .leaf f83 (Qe f83) Qif=some ():=by kernel_rfl
theorem Zhj:Qg cx.bare 83 Qif:=Qg.Qk (Cx.Qm Ql) Qt (n:=3000) (an:=.leaf) (fn:=f83) (c:=Qe f83) (by kernel_rfl) (by kernel_rfl) Zlf (by kernel_rfl)
def Qhe:LC:=⟨[.agg #[.int .i64 22,.slice none 0 0,.int .i64 53,.slice none 0 0],.agg #[.int .i64 48,.slice none 0 0,.int .i64 7,.slice none 0 0]],[.int .i64 (-1)]⟩
theorem Zj3:Qp cx.bare Qs 3000 .leaf f83 (Qe f83) Qhe=some ():=by kernel_rfl
theorem Zlc:Qg cx.bare 83 Qhe:=Qg.Qk (Cx.Qm Ql) Qt (n:=3000) (an:=.leaf) (fn:=f83) (c:=Qe f83) (by kernel_rfl) (by kernel_rfl) Zj3 (by kernel_rfl)
def Qgw:LC:=⟨[.agg #[.int .i64 3,.slice none 0 0,.int .i64 53,.slice none 0 0],.agg #[.int .i64 57,.slice none 0 0,.int .i64 7,.slice none 0 0]],[.int .i64 (-1)]⟩
theorem Zch:Qp cx.bare Qs 3000 .leaf f83 (Qe f83) Qgw=some ():=by kernel_rfl
theorem Za9:Qg cx.bare 83 Qgw:=Qg.Qk (Cx.Qm Ql) Qt (n:=3000) (an:=.leaf) (fn:=f83) (c:=Qe f83) (by kernel_rfl) (by kernel_rfl) Zch (by kernel_rfl)
def Qm7:LC:=⟨[.agg #[.int .i64 37,.slice none 0 0,.int .i64 53,.slice none 0 0],.agg #[.int .i64 73,.slice none 0 0,.int .i64 7,.slice none 0 0]],[.int .i64 (-1)]⟩
theorem Zl9:Qp cx.bare Qs 3000 .leaf f83 (Qe f83) Qm7=some ():=by kernel_rfl
theorem Zj9:Qg cx.bare 83 Qm7:=Qg.Qk (Cx.Qm Ql) Qt (n:=3000) (an:=.leaf) (fn:=f83) (c:=Qe f83) (by kernel_rfl) (by kernel_rfl) Zl9 (by kernel_rfl)
def Qgv:LC:=⟨[.agg #[.int .i64 18,.slice none 0 0,.int .i64 53,.slice none 0 0],.agg #[.int .i64 82,.slice none 0 0,.int .i64 7,.slice none 0 0]],[.int .i64 (-1)]⟩
theorem Qw1:Qp cx.bare Qs 3000 .leaf f83 (Qe f83) Qgv=some ():=by kernel_rfl
theorem Zd0:Qg cx.bare 83 Qgv:=Qg.Qk (Cx.Qm Ql) Qt (n:=3000) (an:=.leaf) (fn:=f83) (c:=Qe f83) (by kernel_rfl) (by kernel_rfl) Qw1 (by kernel_rfl)
def Qk9:LC:=⟨[.agg #[.int .i64 116000,.slice none 0 0,.int .i64 1,.slice none 0 0],.agg #[.int .i64 6127200,.slice none 0 0,.int .i64 53,.slice none 0 0]],[.int .i64 1]⟩
theorem Zb3:Qp cx.bare Qs 3000 .leaf f83 (Qe f83) Qk9=some ():=by kernel_rfl
theorem Qzf:Qg cx.bare 83 Qk9:=Qg.Qk (Cx.Qm Ql) Qt (n:=3000) (an:=.leaf) (fn:=f83) (c:=Qe f83) (by kernel_rfl) (by kernel_rfl) Zb3 (by kernel_rfl)
def Qik:LC:=⟨[.agg #[.int .i64 20800,.slice none 0 0,.int .i64 53,.slice none 0 0],.agg #[.int .i64 84390,.slice none 0 0,.int .i64 1,.slice none 0 0]],[.int .i64 (-1)]⟩
theorem Zdc:Qp cx.bare Qs 3000 .leaf f83 (Qe f83) Qik=some ():=by kernel_rfl
theorem Qxt:Qg cx.bare 83 Qik:=Qg.Qk (Cx.Qm Ql) Qt (n:=3000) (an:=.leaf) (fn:=f83) (c:=Qe f83) (by kernel_rfl) (by kernel_rfl) Zdc (by kernel_rfl)
def Qgu:LC:=⟨[.agg #[.int .i64 116000,.slice none 0 0,.int .i64 1,.slice none 0 0],.agg #[.int .i64 809600,.slice none 0 0,.int .i64 7,.slice none 0 0]],[.int .i64 1]⟩
theorem Zar:Qp cx.bare Qs 3000 .leaf f83 (Qe f83) Qgu=some ():=by kernel_rfl
theorem Zcw:Qg cx.bare 83 Qgu:=Qg.Qk (Cx.Qm Ql) Qt (n:=3000) (an:=.leaf) (fn:=f83) (c:=Qe f83) (by kernel_rfl) (by kernel_rfl) Zar (by kernel_rfl)
def Qhm:LC:=⟨[.agg #[.int .i64 2400,.slice none 0 0,.int .i64 7,.slice none 0 0],.agg #[.int .i64 84390,.slice none 0 0,.int .i64 1,.slice none 0 0]],[.int .i64 (-1)]⟩
theorem Zhy:Qp cx.bare Qs 3000 .leaf f83 (Qe f83) Qhm=some ():=by kernel_rfl
theorem Zk6:Qg cx.bare 83 Qhm:=Qg.Qk (Cx.Qm Ql) Qt (n:=3000) (an:=.leaf) (fn:=f83) (c:=Qe f83) (by kernel_rfl) (by kernel_rfl) Zhy (by kernel_rfl)
def Ql9:LC:=⟨[.agg #[.int .i64 20800,.slice none 0 0,.int .i64 53,.slice none 0 0],.agg #[.int .i64 2400,.slice none 0 0,.int .i64 7,.slice none 0 0]],[.int .i64 1]⟩
theorem Zef:Qp cx.bare Qs 3000 .leaf f83 (Qe f83) Ql9=some ():=by kernel_rfl
theorem Qxr:Qg cx.bare 83 Ql9:=Qg.Qk (Cx.Qm Ql) Qt (n:=3000) (an:=.leaf) (fn:=f83) (c:=Qe f83) (by kernel_rfl) (by kernel_rfl) Zef (by kernel_rfl)
def Qh0:LC:=⟨[.agg #[.int .i64 115630,.slice none 0 0,.int .i64 1,.slice none 0 0],.agg #[.int .i64 6127200,.slice none 0 0,.int .i64 53,.slice none 0 0]],[.int .i64 1]⟩
theorem Zkk:Qp cx.bare Qs 3000 .leaf f83 (Qe f83) Qh0=some ():=by kernel_rfl
theorem Zdf:Qg cx.bare 83 Qh0:=Qg.Qk (Cx.Qm Ql) Qt (n:=3000) (an:=.leaf) (fn:=f83) (c:=Qe f83) (by kernel_rfl) (by kernel_rfl) Zkk (by kernel_rfl)
def Ql3:LC:=⟨[.agg #[.int .i64 1190,.slice none 0 0,.int .i64 53,.slice none 0 0],.agg #[.int .i64 84390,.slice none 0 0,.int .i64 1,.slice none 0 0]],[.int .i64 (-1)]⟩
theorem Zm0:Qp cx.bare Qs 3000 .leaf f83 (Qe f83) Ql3=some ():=by kernel_rfl
theorem Zf5:Qg cx.bare 83 Ql3:=Qg.Qk (Cx.Qm Ql) Qt (n:=3000) (an:=.leaf) (fn:=f83) (c:=Qe f83) (by kernel_rfl) (by kernel_rfl) Zm0 (by kernel_rfl)
def Qjf:LC:=⟨[.agg #[.int .i64 115630,.slice none 0 0,.int .i64 1,.slice none 0 0],.agg #[.int .i64 809600,.slice none 0 0,.int .i64 7,.slice none 0 0]],[.int .i64 (-1)]⟩
theorem Zfh:Qp cx.bare Qs 3000 .leaf f83 (Qe f83) Qjf=some ():=by kernel_rfl
theorem Zcx:Qg cx.bare 83 Qjf:=Qg.Qk (Cx.Qm Ql) Qt (n:=3000) (an:=.leaf) (fn:=f83) (c:=Qe f83) (by kernel_rfl) (by kernel_rfl) Zfh (by kernel_rfl)
def Qhg:LC:=⟨[.agg #[.int .i64 0,.slice none 0 0,.int .i64 1,.slice none 0 0]],[.agg #[.int .i64 0,.slice none 0 0]]⟩
theorem Qym:Qp cx.bare Qs 3000 .leaf f75 (Qe f75) Qhg=some ():=by kernel_rfl
theorem Zes:Qg cx.bare 75 Qhg:=Qg.Qk (Cx.Qm Ql) Qt (n:=3000) (an:=.leaf) (fn:=f75) (c:=Qe f75) (by kernel_rfl) (by kernel_rfl) Qym (by kernel_rfl)
def Qls:LC:=⟨[.agg #[.int .i64 186480,.slice none 0 0,.int .i64 53,.slice none 0 0]],[.agg #[.int .i64 3518,.slice none 0 0]]⟩
theorem Zbk:Qp cx.bare Qs 3000 .leaf f75 (Qe f75) Qls=some ():=by kernel_rfl
theorem Zkr:Qg cx.bare 75 Qls:=Qg.Qk (Cx.Qm Ql) Qt (n:=3000) (an:=.leaf) (fn:=f75) (c:=Qe f75) (by kernel_rfl) (by kernel_rfl) Zbk (by kernel_rfl)
def Qhp:LC:=⟨[.agg #[.int .i64 389610,.slice none 0 0,.int .i64 53,.slice none 0 0]],[.agg #[.int .i64 7351,.slice none 0 0]]⟩
theorem Zky:Qp cx.bare Qs 3000 .leaf f75 (Qe f75) Qhp=some ():=by kernel_rfl
theorem Zc6:Qg cx.bare 75 Qhp:=Qg.Qk (Cx.Qm Ql) Qt (n:=3000) (an:=.leaf) (fn:=f75) (c:=Qe f75) (by kernel_rfl) (by kernel_rfl) Zky (by kernel_rfl)
def Qkn:LC:=⟨[.agg #[.int .i64 592740,.slice none 0 0,.int .i64 53,.slice none 0 0]],[.agg #[.int .i64 11183,.slice none 0 0]]⟩
theorem Zkc:Qp cx.bare Qs 3000 .leaf f75 (Qe f75) Qkn=some ():=by kernel_rfl
theorem Zeg:Qg cx.bare 75 Qkn:=Qg.Qk (Cx.Qm Ql) Qt (n:=3000) (an:=.leaf) (fn:=f75) (c:=Qe f75) (by kernel_rfl) (by kernel_rfl) Zkc (by kernel_rfl)
def Ql5:LC:=⟨[.agg #[.int .i64 795870,.slice none 0 0,.int .i64 53,.slice none 0 0]],[.agg #[.int .i64 15016,.slice none 0 0]]⟩
theorem Qy6:Qp cx.bare Qs 3000 .leaf f75 (Qe f75) Ql5=some ():=by kernel_rfl
theorem Qz2:Qg cx.bare 75 Ql5:=Qg.Qk (Cx.Qm Ql) Qt (n:=3000) (an:=.leaf) (fn:=f75) (c:=Qe f75) (by kernel_rfl) (by kernel_rfl) Qy6 (by kernel_rfl)
def Qfy:LC:=⟨[.agg #[.int .i64 999000,.slice none 0 0,.int .i64 53,.slice none 0 0]],[.agg #[.int .i64 18849,.slice none 0 0]]⟩
theorem Qzl:Qp cx.bare Qs 3000 .leaf f75 (Qe f75) Qfy=some ():=by kernel_rfl
theorem Zlg:Qg cx.bare 75 Qfy:=Qg.Qk (Cx.Qm Ql) Qt (n:=3000) (an:=.leaf) (fn:=f75) (c:=Qe f75) (by kernel_rfl) (by kernel_rfl) Qzl (by kernel_rfl)
def Qh5:LC:=⟨[.agg #[.int .i64 1202130,.slice none 0 0,.int .i64 53,.slice none 0 0]],[.agg #[.int .i64 22681,.slice none 0 0]]⟩
theorem Zkd:Qp cx.bare Qs 3000 .leaf f75 (Qe f75) Qh5=some ():=by kernel_rfl
theorem Qv9:Qg cx.bare 75 Qh5:=Qg.Qk (Cx.Qm Ql) Qt (n:=3000) (an:=.leaf) (fn:=f75) (c:=Qe f75) (by kernel_rfl) (by kernel_rfl) Zkd (by kernel_rfl)
def Qkg:LC:=⟨[.agg #[.int .i64 1405260,.slice none 0 0,.int .i64 53,.slice none 0 0]],[.agg #[.int .i64 26514,.slice none 0 0]]⟩
theorem Za7:Qp cx.bare Qs 3000 .leaf f75 (Qe f75) Qkg=some ():=by kernel_rfl
theorem Zk2:Qg cx.bare 75 Qkg:=Qg.Qk (Cx.Qm Ql) Qt (n:=3000) (an:=.leaf) (fn:=f75) (c:=Qe f75) (by kernel_rfl) (by kernel_rfl) Za7 (by kernel_rfl)
def Qme:LC:=⟨[.agg #[.int .i64 307400,.slice none 0 0,.int .i64 1059987,.slice none 0 0]],[.agg #[.int .i64 0,.slice none 0 0]]⟩
theorem Zfj:Qp cx.bare Qs 3000 .leaf f75 (Qe f75) Qme=some ():=by kernel_rfl
theorem Qv7:Qg cx.bare 75 Qme:=Qg.Qk (Cx.Qm Ql) Qt (n:=3000) (an:=.leaf) (fn:=f75) (c:=Qe f75) (by kernel_rfl) (by kernel_rfl) Zfj (by kernel_rfl)
def Qmn:LC:=⟨[.agg #[.int .i64 40600,.slice none 0 0,.int .i64 140033,.slice none 0 0]],[.agg #[.int .i64 0,.slice none 0 0]]⟩
theorem Zfm:Qp cx.bare Qs 3000 .leaf f75 (Qe f75) Qmn=some ():=by kernel_rfl
theorem Zkb:Qg cx.bare 75 Qmn:=Qg.Qk (Cx.Qm Ql) Qt (n:=3000) (an:=.leaf) (fn:=f75) (c:=Qe f75) (by kernel_rfl) (by kernel_rfl) Zfm (by kernel_rfl)
def Qft:LC:=⟨[.agg #[.int .i64 612839,.slice none 0 0,.int .i64 2119974,.slice none 0 0]],[.agg #[.int .i64 0,.slice none 0 0]]⟩
theorem Zi2:Qp cx.bare Qs 3000 .leaf f75 (Qe f75) Qft=some ():=by kernel_rfl
theorem Qxp:Qg cx.bare 75 Qft:=Qg.Qk (Cx.Qm Ql) Qt (n:=3000) (an:=.leaf) (fn:=f75) (c:=Qe f75) (by kernel_rfl) (by kernel_rfl) Zi2 (by kernel_rfl)
def Qmk:LC:=⟨[.agg #[.int .i64 80941,.slice none 0 0,.int .i64 280066,.slice none 0 0]],[.agg #[.int .i64 0,.slice none 0 0]]⟩
theorem Zeb:Qp cx.bare Qs 3000 .leaf f75 (Qe f75) Qmk=some ():=by kernel_rfl
theorem Zb5:Qg cx.bare 75 Qmk:=Qg.Qk (Cx.Qm Ql) Qt (n:=3000) (an:=.leaf) (fn:=f75) (c:=Qe f75) (by kernel_rfl) (by kernel_rfl) Zeb (by kernel_rfl)
def Qio:LC:=⟨[.agg #[.int .i64 0,.slice none 0 0,.int .i64 1,.slice none 0 0]],[.string (bs [48])]⟩
theorem Zez:Qp cx.bare Qs 3000 .leaf f84 (Qe f84) Qio=some ():=by kernel_rfl
theorem Zfl:Qg cx.bare 84 Qio:=Qg.Qk (Cx.Qm Ql) Qt (n:=3000) (an:=.leaf) (fn:=f84) (c:=Qe f84) (by kernel_rfl) (by kernel_rfl) Zez (by kernel_rfl)
def Qh1:LC:=⟨[.agg #[.int .i64 26,.slice none 0 0,.int .i64 53,.slice none 0 0]],[.string (bs [50,54,47,53,51])]⟩
theorem Zb8:Qp cx.bare Qs 3000 .leaf f84 (Qe f84) Qh1=some ():=by kernel_rfl
theorem Zdv:Qg cx.bare 84 Qh1:=Qg.Qk (Cx.Qm Ql) Qt (n:=3000) (an:=.leaf) (fn:=f84) (c:=Qe f84) (by kernel_rfl) (by kernel_rfl) Zb8 (by kernel_rfl)
def Qis:LC:=⟨[.agg #[.int .i64 2,.slice none 0 0,.int .i64 1,.slice none 0 0]],[.string (bs [50])]⟩
theorem Zhv:Qp cx.bare Qs 3000 .leaf f84 (Qe f84) Qis=some ():=by kernel_rfl
theorem Zl5:Qg cx.bare 84 Qis:=Qg.Qk (Cx.Qm Ql) Qt (n:=3000) (an:=.leaf) (fn:=f84) (c:=Qe f84) (by kernel_rfl) (by kernel_rfl) Zhv (by kernel_rfl)
def Qiw:LC:=⟨[.agg #[.int .i64 7,.slice none 0 0,.int .i64 53,.slice none 0 0]],[.string (bs [55,47,53,51])]⟩
theorem Qz8:Qp cx.bare Qs 3000 .leaf f84 (Qe f84) Qiw=some ():=by kernel_rfl
theorem Qzx:Qg cx.bare 84 Qiw:=Qg.Qk (Cx.Qm Ql) Qt (n:=3000) (an:=.leaf) (fn:=f84) (c:=Qe f84) (by kernel_rfl) (by kernel_rfl) Qz8 (by kernel_rfl)
def Qj4:LC:=⟨[.agg #[.int .i64 23,.slice none 0 0,.int .i64 7,.slice none 0 0]],[.string (bs [50,51,47,55])]⟩
theorem Zfy:Qp cx.bare Qs 3000 .leaf f84 (Qe f84) Qj4=some ():=by kernel_rfl
theorem Zh2:Qg cx.bare 84 Qj4:=Qg.Qk (Cx.Qm Ql) Qt (n:=3000) (an:=.leaf) (fn:=f84) (c:=Qe f84) (by kernel_rfl) (by kernel_rfl) Zfy (by kernel_rfl)
def Qfw:LC:=⟨[.agg #[.int .i64 41,.slice none 0 0,.int .i64 53,.slice none 0 0]],[.string (bs [52,49,47,53,51])]⟩
theorem Zko:Qp cx.bare Qs 3000 .leaf f84 (Qe f84) Qfw=some ():=by kernel_rfl
theorem Zdb:Qg cx.bare 84 Qfw:=Qg.Qk (Cx.Qm Ql) Qt (n:=3000) (an:=.leaf) (fn:=f84) (c:=Qe f84) (by kernel_rfl) (by kernel_rfl) Zko (by kernel_rfl)
def Qf0:LC:=⟨[.agg #[.int .i64 39,.slice none 0 0,.int .i64 7,.slice none 0 0]],[.string (bs [51,57,47,55])]⟩
theorem Qx5:Qp cx.bare Qs 3000 .leaf f84 (Qe f84) Qf0=some ():=by kernel_rfl
theorem Ze5:Qg cx.bare 84 Qf0:=Qg.Qk (Cx.Qm Ql) Qt (n:=3000) (an:=.leaf) (fn:=f84) (c:=Qe f84) (by kernel_rfl) (by kernel_rfl) Qx5 (by kernel_rfl)
def Qi9:LC:=⟨[.agg #[.int .i64 22,.slice none 0 0,.int .i64 53,.slice none 0 0]],[.string (bs [50,50,47,53,51])]⟩
theorem Zcu:Qp cx.bare Qs 3000 .leaf f84 (Qe f84) Qi9=some ():=by kernel_rfl
theorem Zev:Qg cx.bare 84 Qi9:=Qg.Qk (Cx.Qm Ql) Qt (n:=3000) (an:=.leaf) (fn:=f84) (c:=Qe f84) (by kernel_rfl) (by kernel_rfl) Zcu (by kernel_rfl)
def Qf6:LC:=⟨[.agg #[.int .i64 48,.slice none 0 0,.int .i64 7,.slice none 0 0]],[.string (bs [52,56,47,55])]⟩
theorem Qx7:Qp cx.bare Qs 3000 .leaf f84 (Qe f84) Qf6=some ():=by kernel_rfl
theorem Zlx:Qg cx.bare 84 Qf6:=Qg.Qk (Cx.Qm Ql) Qt (n:=3000) (an:=.leaf) (fn:=f84) (c:=Qe f84) (by kernel_rfl) (by kernel_rfl) Qx7 (by kernel_rfl)
def Qhv:LC:=⟨[.agg #[.int .i64 3,.slice none 0 0,.int .i64 53,.slice none 0 0]],[.string (bs [51,47,53,51])]⟩
theorem Zd1:Qp cx.bare Qs 3000 .leaf f84 (Qe f84) Qhv=some ():=by kernel_rfl
theorem Zdt:Qg cx.bare 84 Qhv:=Qg.Qk (Cx.Qm Ql) Qt (n:=3000) (an:=.leaf) (fn:=f84) (c:=Qe f84) (by kernel_rfl) (by kernel_rfl) Zd1 (by kernel_rfl)
def Ql8:LC:=⟨[.agg #[.int .i64 57,.slice none 0 0,.int .i64 7,.slice none 0 0]],[.string (bs [53,55,47,55])]⟩
theorem Qwp:Qp cx.bare Qs 3000 .leaf f84 (Qe f84) Ql8=some ():=by kernel_rfl
theorem Zib:Qg cx.bare 84 Ql8:=Qg.Qk (Cx.Qm Ql) Qt (n:=3000) (an:=.leaf) (fn:=f84) (c:=Qe f84) (by kernel_rfl) (by kernel_rfl) Qwp (by kernel_rfl)
def Qgz:LC:=⟨[.agg #[.int .i64 37,.slice none 0 0,.int .i64 53,.slice none 0 0]],[.string (bs [51,55,47,53,51])]⟩
theorem Qzm:Qp cx.bare Qs 3000 .leaf f84 (Qe f84) Qgz=some ():=by kernel_rfl
theorem Zl7:Qg cx.bare 84 Qgz:=Qg.Qk (Cx.Qm Ql) Qt (n:=3000) (an:=.leaf) (fn:=f84) (c:=Qe f84) (by kernel_rfl) (by kernel_rfl) Qzm (by kernel_rfl)
def Qhr:LC:=⟨[.agg #[.int .i64 73,.slice none 0 0,.int .i64 7,.slice none 0 0]],[.string (bs [55,51,47,55])]⟩
theorem Zhf:Qp cx.bare Qs 3000 .leaf f84 (Qe f84) Qhr=some ():=by kernel_rfl
theorem Qxf:Qg cx.bare 84 Qhr:=Qg.Qk (Cx.Qm Ql) Qt (n:=3000) (an:=.leaf) (fn:=f84) (c:=Qe f84) (by kernel_rfl) (by kernel_rfl) Zhf (by kernel_rfl)
def Qfo:LC:=⟨[.agg #[.int .i64 18,.slice none 0 0,.int .i64 53,.slice none 0 0]],[.string (bs [49,56,47,53,51])]⟩
theorem Zdk:Qp cx.bare Qs 3000 .leaf f84 (Qe f84) Qfo=some ():=by kernel_rfl
theorem Zem:Qg cx.bare 84 Qfo:=Qg.Qk (Cx.Qm Ql) Qt (n:=3000) (an:=.leaf) (fn:=f84) (c:=Qe f84) (by kernel_rfl) (by kernel_rfl) Zdk (by kernel_rfl)
def Qit:LC:=⟨[.agg #[.int .i64 82,.slice none 0 0,.int .i64 7,.slice none 0 0]],[.string (bs [56,50,47,55])]⟩
theorem Zbr:Qp cx.bare Qs 3000 .leaf f84 (Qe f84) Qit=some ():=by kernel_rfl
theorem Zjx:Qg cx.bare 84 Qit:=Qg.Qk (Cx.Qm Ql) Qt (n:=3000) (an:=.leaf) (fn:=f84) (c:=Qe f84) (by kernel_rfl) (by kernel_rfl) Zbr (by kernel_rfl)
def Qfc:LC:=⟨[.agg #[.int .i64 2400,.slice none 0 0,.int .i64 7,.slice none 0 0]],[.string (bs [50,52,48,48,47,55])]⟩
theorem Zde:Qp cx.bare Qs 3000 .leaf f84 (Qe f84) Qfc=some ():=by kernel_rfl
theorem Zgg:Qg cx.bare 84 Qfc:=Qg.Qk (Cx.Qm Ql) Qt (n:=3000) (an:=.leaf) (fn:=f84) (c:=Qe f84) (by kernel_rfl) (by kernel_rfl) Zde (by kernel_rfl)
def Ql6:LC:=⟨[.agg #[.int .i64 20800,.slice none 0 0,.int .i64 53,.slice none 0 0]],[.string (bs [50,48,56,48,48,47,53,51])]⟩
theorem Qzg:Qp cx.bare Qs 3000 .leaf f84 (Qe f84) Ql6=some ():=by kernel_rfl
theorem Zm3:Qg cx.bare 84 Ql6:=Qg.Qk (Cx.Qm Ql) Qt (n:=3000) (an:=.leaf) (fn:=f84) (c:=Qe f84) (by kernel_rfl) (by kernel_rfl) Qzg (by kernel_rfl)
def Ql2:LC:=⟨[.agg #[.int .i64 116000,.slice none 0 0,.int .i64 1,.slice none 0 0],.agg #[.int .i64 21199740,.slice none 0 0,.int .i64 53,.slice none 0 0]],[.agg #[.int .i64 307400,.slice none 0 0,.int .i64 1059987,.slice none 0 0]]⟩
theorem Zdx:Qp cx.bare Qs 3000 .leaf f86 (Qe f86) Ql2=some ():=by kernel_rfl
theorem Qz4:Qg cx.bare 86 Ql2:=Qg.Qk (Cx.Qm Ql) Qt (n:=3000) (an:=.leaf) (fn:=f86) (c:=Qe f86) (by kernel_rfl) (by kernel_rfl) Zdx (by kernel_rfl)
def Qjb:LC:=⟨[.agg #[.int .i64 116000,.slice none 0 0,.int .i64 1,.slice none 0 0],.agg #[.int .i64 2800660,.slice none 0 0,.int .i64 7,.slice none 0 0]],[.agg #[.int .i64 40600,.slice none 0 0,.int .i64 140033,.slice none 0 0]]⟩
theorem Zmc:Qp cx.bare Qs 3000 .leaf f86 (Qe f86) Qjb=some ():=by kernel_rfl
theorem Qxu:Qg cx.bare 86 Qjb:=Qg.Qk (Cx.Qm Ql) Qt (n:=3000) (an:=.leaf) (fn:=f86) (c:=Qe f86) (by kernel_rfl) (by kernel_rfl) Zmc (by kernel_rfl)
def Qib:LC:=⟨[.agg #[.int .i64 115630,.slice none 0 0,.int .i64 1,.slice none 0 0],.agg #[.int .i64 21199740,.slice none 0 0,.int .i64 53,.slice none 0 0]],[.agg #[.int .i64 612839,.slice none 0 0,.int .i64 2119974,.slice none 0 0]]⟩
theorem Zgl:Qp cx.bare Qs 3000 .leaf f86 (Qe f86) Qib=some ():=by kernel_rfl
theorem Zgm:Qg cx.bare 86 Qib:=Qg.Qk (Cx.Qm Ql) Qt (n:=3000) (an:=.leaf) (fn:=f86) (c:=Qe f86) (by kernel_rfl) (by kernel_rfl) Zgl (by kernel_rfl)
def Qli:LC:=⟨[.agg #[.int .i64 115630,.slice none 0 0,.int .i64 1,.slice none 0 0],.agg #[.int .i64 2800660,.slice none 0 0,.int .i64 7,.slice none 0 0]],[.agg #[.int .i64 80941,.slice none 0 0,.int .i64 280066,.slice none 0 0]]⟩
theorem Qxx:Qp cx.bare Qs 3000 .leaf f86 (Qe f86) Qli=some ():=by kernel_rfl
theorem Zfu:Qg cx.bare 86 Qli:=Qg.Qk (Cx.Qm Ql) Qt (n:=3000) (an:=.leaf) (fn:=f86) (c:=Qe f86) (by kernel_rfl) (by kernel_rfl) Qxx (by kernel_rfl)
def Qlf:LC:=⟨[.agg #[.int .i64 116000,.slice none 0 0,.int .i64 1,.slice none 0 0],.agg #[.int .i64 0,.slice none 0 0,.int .i64 1,.slice none 0 0]],[.agg #[.int .i64 116000,.slice none 0 0,.int .i64 1,.slice none 0 0]]⟩
theorem Zff:Qp cx.bare Qs 3000 .leaf f87 (Qe f87) Qlf=some ():=by kernel_rfl
theorem Qy1:Qg cx.bare 87 Qlf:=Qg.Qk (Cx.Qm Ql) Qt (n:=3000) (an:=.leaf) (fn:=f87) (c:=Qe f87) (by kernel_rfl) (by kernel_rfl) Zff (by kernel_rfl)
def Qhk:LC:=⟨[.agg #[.int .i64 116000,.slice none 0 0,.int .i64 1,.slice none 0 0],.agg #[.int .i64 6127200,.slice none 0 0,.int .i64 53,.slice none 0 0]],[.agg #[.int .i64 20800,.slice none 0 0,.int .i64 53,.slice none 0 0]]⟩
theorem Za4:Qp cx.bare Qs 3000 .leaf f87 (Qe f87) Qhk=some ():=by kernel_rfl
theorem Zds:Qg cx.bare 87 Qhk:=Qg.Qk (Cx.Qm Ql) Qt (n:=3000) (an:=.leaf) (fn:=f87) (c:=Qe f87) (by kernel_rfl) (by kernel_rfl) Za4 (by kernel_rfl)
def Qhh:LC:=⟨[.agg #[.int .i64 116000,.slice none 0 0,.int .i64 1,.slice none 0 0],.agg #[.int .i64 809600,.slice none 0 0,.int .i64 7,.slice none 0 0]],[.agg #[.int .i64 2400,.slice none 0 0,.int .i64 7,.slice none 0 0]]⟩
theorem Qzn:Qp cx.bare Qs 3000 .leaf f87 (Qe f87) Qhh=some ():=by kernel_rfl
theorem Zdl:Qg cx.bare 87 Qhh:=Qg.Qk (Cx.Qm Ql) Qt (n:=3000) (an:=.leaf) (fn:=f87) (c:=Qe f87) (by kernel_rfl) (by kernel_rfl) Qzn (by kernel_rfl)
def Qja:LC:=⟨[.agg #[.int .i64 115630,.slice none 0 0,.int .i64 1,.slice none 0 0],.agg #[.int .i64 0,.slice none 0 0,.int .i64 1,.slice none 0 0]],[.agg #[.int .i64 115630,.slice none 0 0,.int .i64 1,.slice none 0 0]]⟩
theorem Zbf:Qp cx.bare Qs 3000 .leaf f87 (Qe f87) Qja=some ():=by kernel_rfl
theorem Zhi:Qg cx.bare 87 Qja:=Qg.Qk (Cx.Qm Ql) Qt (n:=3000) (an:=.leaf) (fn:=f87) (c:=Qe f87) (by kernel_rfl) (by kernel_rfl) Zbf (by kernel_rfl)
def Qhi:LC:=⟨[.agg #[.int .i64 115630,.slice none 0 0,.int .i64 1,.slice none 0 0],.agg #[.int .i64 6127200,.slice none 0 0,.int .i64 53,.slice none 0 0]],[.agg #[.int .i64 1190,.slice none 0 0,.int .i64 53,.slice none 0 0]]⟩
theorem Zd4:Qp cx.bare Qs 3000 .leaf f87 (Qe f87) Qhi=some ():=by kernel_rfl
theorem Zf2:Qg cx.bare 87 Qhi:=Qg.Qk (Cx.Qm Ql) Qt (n:=3000) (an:=.leaf) (fn:=f87) (c:=Qe f87) (by kernel_rfl) (by kernel_rfl) Zd4 (by kernel_rfl)
def Qlh:List LC:=[Qfn,Qh9,Qhd,Qk3,Qlm,Qhl,Qiq,Qkh,Qgh,Qnv,Qnq,Qim,Qlu,Qnk,Qgx,Qip,Qga,Qh4,Qfh,Qnc,Qij,Qlg,Qiu,Qlo,Qnw,Qne]
theorem Quf:Yn cx.bare 79 (Zt Qlh):=Je ⟨f79,by kernel_rfl⟩ (Qq Zb9 (Qq Za2 (Qq Qyy (Qq Zfk (Qq Qzy (Qq Zae (Qq Zf0 (Qq Qyz (Qq Qzi (Qq Zg4 (Qq Zcp (Qq Zk9 (Qq Qz3 (Qq Zbm (Qq Zcb (Qq Qxj (Qq Zll (Qq Zcr (Qq Qv5 (Qq Qys (Qq Zc4 (Qq Zj8 (Qq Zkm (Qq Zif (Qq Zij (Qq Zkz (Jk)))))))))))))))))))))))))))
def Qmz:List LC:=[Qk1,Qkx,Qnb,Qiz,Qf3,Qjz,Qi7,Qin,Qnf,Qmh,Qj9,Qkb,Qe9,Qe8,Qhf,Qkr,Qjn,Qma,Qi3,Qn5,Qfp,Qhc,Qfj,Qfu,Qjc,Qil,Qhw,Qjl,Qmp,Qlc,Qk2,Qf5,Qha,Qje,Qgo,Qfr,Qjw]
theorem Qtj:Yn cx.bare 78 (Zt Qmz):=Je ⟨f78,by kernel_rfl⟩ (Qq Zgs (Qq Zam (Qq Qyw (Qq Qyj (Qq Zgc (Qq Zir (Qq Zlp (Qq Zbh (Qq Zj0 (Qq Zhq (Qq Zge (Qq Zap (Qq Zmm (Qq Zix (Qq Qzz (Qq Qx2 (Qq Zau (Qq Qwy (Qq Zg5 (Qq Zj6 (Qq Qwm (Qq Zl3 (Qq Ze4 (Qq Zgn (Qq Zmv (Qq Zaj (Qq Zlk (Qq Zgt (Qq Zbj (Qq Zhz (Qq Zgo (Qq Qxa (Qq Qwv (Qq Zio (Qq Zg9 (Qq Zji (Qq Zjs (Jk))))))))))))))))))))))))))))))))))))))
def Qkc:List LC:=[Qfa,Qg9,Qhj,Qif,Qhe,Qgw,Qm7,Qgv,Qk9,Qik,Qgu,Qhm,Ql9,Qh0,Ql3,Qjf]
theorem Qoh:Yn cx.bare 83 (Zt Qkc):=Je ⟨f83,by kernel_rfl⟩ (Qq Zjc (Qq Qyu (Qq Zkf (Qq Zhj (Qq Zlc (Qq Za9 (Qq Zj9 (Qq Zd0 (Qq Qzf (Qq Qxt (Qq Zcw (Qq Zk6 (Qq Qxr (Qq Zdf (Qq Zf5 (Qq Zcx (Jk)))))))))))))))))
def Qg4:List LC:=[Qhg,Qls,Qhp,Qkn,Ql5,Qfy,Qh5,Qkg,Qme,Qmn,Qft,Qmk]
theorem Qo7:Yn cx.bare 75 (Zt Qg4):=Je ⟨f75,by kernel_rfl⟩ (Qq Zes (Qq Zkr (Qq Zc6 (Qq Zeg (Qq Qz2 (Qq Zlg (Qq Qv9 (Qq Zk2 (Qq Qv7 (Qq Zkb (Qq Qxp (Qq Zb5 (Jk)))))))))))))
def Qgc:List LC:=[Qio,Qh1,Qis,Qiw,Qj4,Qfw,Qf0,Qi9,Qf6,Qhv,Ql8,Qgz,Qhr,Qfo,Qit,Qfc,Ql6]
theorem Qs6:Yn cx.bare 84 (Zt Qgc):=Je ⟨f84,by kernel_rfl⟩ (Qq Zfl (Qq Zdv (Qq Zl5 (Qq Qzx (Qq Zh2 (Qq Zdb (Qq Ze5 (Qq Zev (Qq Zlx (Qq Zdt (Qq Zib (Qq Zl7 (Qq Qxf (Qq Zem (Qq Zjx (Qq Zgg (Qq Zm3 (Jk))))))))))))))))))
def Qfq:List LC:=[Ql2,Qjb,Qib,Qli]
theorem Qor:Yn cx.bare 86 (Zt Qfq):=Je ⟨f86,by kernel_rfl⟩ (Qq Qz4 (Qq Qxu (Qq Zgm (Qq Zfu (Jk)))))
def Qm0:List LC:=[Qlf,Qhk,Qhh,Qja,Qhi]
theorem Qpu:Yn cx.bare 87 (Zt Qm0):=Je ⟨f87,by kernel_rfl⟩ (Qq Qy1 (Qq Zds (Qq Zdl (Qq Zhi (Qq Zf2 (Jk))))))
noncomputable def lxN:Lx:={ext:=[(121,(Qal 400).sm),(79,Zt Qlh),(78,Zt Qmz),(83,Zt Qkc),(75,Zt Qg4),(84,Zt Qgc),(86,Zt Qfq),(87,Zt Qm0)],anns:=[],still:=[]}
theorem Zg:lxN.Ok cx.bare:=Lx.Za (PC.Zn (Qeo 400).bare) (Lx.Za (Quf) (Lx.Za (Qtj) (Lx.Za (Qoh) (Lx.Za (Qo7) (Lx.Za (Qs6) (Lx.Za (Qor) (Lx.Za (Qpu) (Lx.Y4))))))))
def Qpi:(Int×Int×Int×Int×Int×Int)×Int:=((84390,36500,1220,300,200,8),1)
def Qpv:List Int×Int:=([0,3518,7351,11183,15016,18849,22681,26514],0)
abbrev Qh8:List Qi:=[.agg [.int .i64,.int .i64,.int .i64,.int .i64,.int .i64,.int .i64],.val (.int .i64)]
abbrev Qke:List Qi:=[.val (.seq [.int .i64]),.val (.int .i64)]
theorem Zi9:Zx cx.bare lxN 3000 .leaf f32 (Qe f32) Qh8 Qke Qpi=some Qpv:=by kernel_rfl
noncomputable def Qt4:PC:={ats:=Qh8,rts:=Qke,code:=Go.Sx.one (ats:=Qh8) (rts:=Qke) Qpi Qpv}
theorem Zd6:Qz cx.bare 32 Qt4:=Qz.Qk (Cx.Qm Ql) Zg (n:=3000) (an:=.leaf) (fn:=f32) (c:=Qe f32) (by kernel_rfl) (by kernel_rfl) (fun a y h=>by obtain⟨h1,h2⟩:=Go.Sx.one_some h;subst h1;subst h2;exact Zi9) (by kernel_rfl)
end Go.Proofs.Tryz
