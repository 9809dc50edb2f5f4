/- closed runs of (stadion/num.Frac).Add closed runs of (stadion/num.Frac).Add And further parts. -/
import Derived.Test.YtebmfbcngojbdaaGreatDoorXT7a
import Derived.Test.YtebmfbcngojbdaaGreatDoorXSxLt
set_option maxRecDepth 1000000
set_option linter.unusedVariables false
namespace Go.Proofs.Tryz
open Go Go.Sx
def Qhp:LC:=⟨[.agg #[.int .i64 0,.slice none 0 0,.int .i64 1,.slice none 0 0],.agg #[.int .i64 186480,.slice none 0 0,.int .i64 53,.slice none 0 0]],[.agg #[.int .i64 186480,.slice none 0 0,.int .i64 53,.slice none 0 0]]⟩
theorem Zeo:Qp cx.bare Qs 3000 .leaf f78 (Qd f78) Qhp=some ():=by kernel_rfl
theorem Zia:Qg cx.bare 78 Qhp:=Qg.Qi (Cx.Qm Qj) Qt (n:=3000) (an:=.leaf) (fn:=f78) (c:=Qd f78) (by kernel_rfl) (by kernel_rfl) Zeo (by kernel_rfl)
def Qn2:LC:=⟨[.agg #[.int .i64 0,.slice none 0 0,.int .i64 1,.slice none 0 0],.agg #[.int .i64 3520,.slice none 0 0,.int .i64 1,.slice none 0 0]],[.agg #[.int .i64 3520,.slice none 0 0,.int .i64 1,.slice none 0 0]]⟩
theorem Ztx:Qp cx.bare Qs 3000 .leaf f78 (Qd f78) Qn2=some ():=by kernel_rfl
theorem Zc5:Qg cx.bare 78 Qn2:=Qg.Qi (Cx.Qm Qj) Qt (n:=3000) (an:=.leaf) (fn:=f78) (c:=Qd f78) (by kernel_rfl) (by kernel_rfl) Ztx (by kernel_rfl)
def Qjw:LC:=⟨[.agg #[.int .i64 (-3518),.slice none 0 0,.int .i64 1,.slice none 0 0],.agg #[.int .i64 186480,.slice none 0 0,.int .i64 53,.slice none 0 0]],[.agg #[.int .i64 26,.slice none 0 0,.int .i64 53,.slice none 0 0]]⟩
theorem Zde:Qp cx.bare Qs 3000 .leaf f78 (Qd f78) Qjw=some ():=by kernel_rfl
theorem Zqa:Qg cx.bare 78 Qjw:=Qg.Qi (Cx.Qm Qj) Qt (n:=3000) (an:=.leaf) (fn:=f78) (c:=Qd f78) (by kernel_rfl) (by kernel_rfl) Zde (by kernel_rfl)
def Qin:LC:=⟨[.agg #[.int .i64 (-3518),.slice none 0 0,.int .i64 1,.slice none 0 0],.agg #[.int .i64 3520,.slice none 0 0,.int .i64 1,.slice none 0 0]],[.agg #[.int .i64 2,.slice none 0 0,.int .i64 1,.slice none 0 0]]⟩
theorem Ztc:Qp cx.bare Qs 3000 .leaf f78 (Qd f78) Qin=some ():=by kernel_rfl
theorem Zpu:Qg cx.bare 78 Qin:=Qg.Qi (Cx.Qm Qj) Qt (n:=3000) (an:=.leaf) (fn:=f78) (c:=Qd f78) (by kernel_rfl) (by kernel_rfl) Ztc (by kernel_rfl)
def Ql9:LC:=⟨[.agg #[.int .i64 0,.slice none 0 0,.int .i64 1,.slice none 0 0],.agg #[.int .i64 389610,.slice none 0 0,.int .i64 53,.slice none 0 0]],[.agg #[.int .i64 389610,.slice none 0 0,.int .i64 53,.slice none 0 0]]⟩
theorem Zqj:Qp cx.bare Qs 3000 .leaf f78 (Qd f78) Ql9=some ():=by kernel_rfl
theorem Zgj:Qg cx.bare 78 Ql9:=Qg.Qi (Cx.Qm Qj) Qt (n:=3000) (an:=.leaf) (fn:=f78) (c:=Qd f78) (by kernel_rfl) (by kernel_rfl) Zqj (by kernel_rfl)
def Qk7:LC:=⟨[.agg #[.int .i64 0,.slice none 0 0,.int .i64 1,.slice none 0 0],.agg #[.int .i64 51480,.slice none 0 0,.int .i64 7,.slice none 0 0]],[.agg #[.int .i64 51480,.slice none 0 0,.int .i64 7,.slice none 0 0]]⟩
theorem Zhr:Qp cx.bare Qs 3000 .leaf f78 (Qd f78) Qk7=some ():=by kernel_rfl
theorem Zn3:Qg cx.bare 78 Qk7:=Qg.Qi (Cx.Qm Qj) Qt (n:=3000) (an:=.leaf) (fn:=f78) (c:=Qd f78) (by kernel_rfl) (by kernel_rfl) Zhr (by kernel_rfl)
def Qhq:LC:=⟨[.agg #[.int .i64 (-7351),.slice none 0 0,.int .i64 1,.slice none 0 0],.agg #[.int .i64 389610,.slice none 0 0,.int .i64 53,.slice none 0 0]],[.agg #[.int .i64 7,.slice none 0 0,.int .i64 53,.slice none 0 0]]⟩
theorem Zev:Qp cx.bare Qs 3000 .leaf f78 (Qd f78) Qhq=some ():=by kernel_rfl
theorem Zoj:Qg cx.bare 78 Qhq:=Qg.Qi (Cx.Qm Qj) Qt (n:=3000) (an:=.leaf) (fn:=f78) (c:=Qd f78) (by kernel_rfl) (by kernel_rfl) Zev (by kernel_rfl)
def Qmt:LC:=⟨[.agg #[.int .i64 (-7351),.slice none 0 0,.int .i64 1,.slice none 0 0],.agg #[.int .i64 51480,.slice none 0 0,.int .i64 7,.slice none 0 0]],[.agg #[.int .i64 23,.slice none 0 0,.int .i64 7,.slice none 0 0]]⟩
theorem Zjs:Qp cx.bare Qs 3000 .leaf f78 (Qd f78) Qmt=some ():=by kernel_rfl
theorem Zlk:Qg cx.bare 78 Qmt:=Qg.Qi (Cx.Qm Qj) Qt (n:=3000) (an:=.leaf) (fn:=f78) (c:=Qd f78) (by kernel_rfl) (by kernel_rfl) Zjs (by kernel_rfl)
def Qg6:LC:=⟨[.agg #[.int .i64 0,.slice none 0 0,.int .i64 1,.slice none 0 0],.agg #[.int .i64 592740,.slice none 0 0,.int .i64 53,.slice none 0 0]],[.agg #[.int .i64 592740,.slice none 0 0,.int .i64 53,.slice none 0 0]]⟩
theorem Zi6:Qp cx.bare Qs 3000 .leaf f78 (Qd f78) Qg6=some ():=by kernel_rfl
theorem Zqo:Qg cx.bare 78 Qg6:=Qg.Qi (Cx.Qm Qj) Qt (n:=3000) (an:=.leaf) (fn:=f78) (c:=Qd f78) (by kernel_rfl) (by kernel_rfl) Zi6 (by kernel_rfl)
def Qg1:LC:=⟨[.agg #[.int .i64 0,.slice none 0 0,.int .i64 1,.slice none 0 0],.agg #[.int .i64 78320,.slice none 0 0,.int .i64 7,.slice none 0 0]],[.agg #[.int .i64 78320,.slice none 0 0,.int .i64 7,.slice none 0 0]]⟩
theorem Zsf:Qp cx.bare Qs 3000 .leaf f78 (Qd f78) Qg1=some ():=by kernel_rfl
theorem Zo4:Qg cx.bare 78 Qg1:=Qg.Qi (Cx.Qm Qj) Qt (n:=3000) (an:=.leaf) (fn:=f78) (c:=Qd f78) (by kernel_rfl) (by kernel_rfl) Zsf (by kernel_rfl)
def Qia:LC:=⟨[.agg #[.int .i64 (-11183),.slice none 0 0,.int .i64 1,.slice none 0 0],.agg #[.int .i64 592740,.slice none 0 0,.int .i64 53,.slice none 0 0]],[.agg #[.int .i64 41,.slice none 0 0,.int .i64 53,.slice none 0 0]]⟩
theorem Zpy:Qp cx.bare Qs 3000 .leaf f78 (Qd f78) Qia=some ():=by kernel_rfl
theorem Zrq:Qg cx.bare 78 Qia:=Qg.Qi (Cx.Qm Qj) Qt (n:=3000) (an:=.leaf) (fn:=f78) (c:=Qd f78) (by kernel_rfl) (by kernel_rfl) Zpy (by kernel_rfl)
def Qj5:LC:=⟨[.agg #[.int .i64 (-11183),.slice none 0 0,.int .i64 1,.slice none 0 0],.agg #[.int .i64 78320,.slice none 0 0,.int .i64 7,.slice none 0 0]],[.agg #[.int .i64 39,.slice none 0 0,.int .i64 7,.slice none 0 0]]⟩
theorem Zm0:Qp cx.bare Qs 3000 .leaf f78 (Qd f78) Qj5=some ():=by kernel_rfl
theorem Zel:Qg cx.bare 78 Qj5:=Qg.Qi (Cx.Qm Qj) Qt (n:=3000) (an:=.leaf) (fn:=f78) (c:=Qd f78) (by kernel_rfl) (by kernel_rfl) Zm0 (by kernel_rfl)
def Qlb:LC:=⟨[.agg #[.int .i64 0,.slice none 0 0,.int .i64 1,.slice none 0 0],.agg #[.int .i64 795870,.slice none 0 0,.int .i64 53,.slice none 0 0]],[.agg #[.int .i64 795870,.slice none 0 0,.int .i64 53,.slice none 0 0]]⟩
theorem Zs6:Qp cx.bare Qs 3000 .leaf f78 (Qd f78) Qlb=some ():=by kernel_rfl
theorem Zon:Qg cx.bare 78 Qlb:=Qg.Qi (Cx.Qm Qj) Qt (n:=3000) (an:=.leaf) (fn:=f78) (c:=Qd f78) (by kernel_rfl) (by kernel_rfl) Zs6 (by kernel_rfl)
def Qix:LC:=⟨[.agg #[.int .i64 0,.slice none 0 0,.int .i64 1,.slice none 0 0],.agg #[.int .i64 105160,.slice none 0 0,.int .i64 7,.slice none 0 0]],[.agg #[.int .i64 105160,.slice none 0 0,.int .i64 7,.slice none 0 0]]⟩
theorem Zld:Qp cx.bare Qs 3000 .leaf f78 (Qd f78) Qix=some ():=by kernel_rfl
theorem Zj6:Qg cx.bare 78 Qix:=Qg.Qi (Cx.Qm Qj) Qt (n:=3000) (an:=.leaf) (fn:=f78) (c:=Qd f78) (by kernel_rfl) (by kernel_rfl) Zld (by kernel_rfl)
def Qob:LC:=⟨[.agg #[.int .i64 (-15016),.slice none 0 0,.int .i64 1,.slice none 0 0],.agg #[.int .i64 795870,.slice none 0 0,.int .i64 53,.slice none 0 0]],[.agg #[.int .i64 22,.slice none 0 0,.int .i64 53,.slice none 0 0]]⟩
theorem Zdx:Qp cx.bare Qs 3000 .leaf f78 (Qd f78) Qob=some ():=by kernel_rfl
theorem Zrl:Qg cx.bare 78 Qob:=Qg.Qi (Cx.Qm Qj) Qt (n:=3000) (an:=.leaf) (fn:=f78) (c:=Qd f78) (by kernel_rfl) (by kernel_rfl) Zdx (by kernel_rfl)
def Qnf:LC:=⟨[.agg #[.int .i64 (-15016),.slice none 0 0,.int .i64 1,.slice none 0 0],.agg #[.int .i64 105160,.slice none 0 0,.int .i64 7,.slice none 0 0]],[.agg #[.int .i64 48,.slice none 0 0,.int .i64 7,.slice none 0 0]]⟩
theorem Zfo:Qp cx.bare Qs 3000 .leaf f78 (Qd f78) Qnf=some ():=by kernel_rfl
theorem Zrd:Qg cx.bare 78 Qnf:=Qg.Qi (Cx.Qm Qj) Qt (n:=3000) (an:=.leaf) (fn:=f78) (c:=Qd f78) (by kernel_rfl) (by kernel_rfl) Zfo (by kernel_rfl)
def Qkh:LC:=⟨[.agg #[.int .i64 0,.slice none 0 0,.int .i64 1,.slice none 0 0],.agg #[.int .i64 999000,.slice none 0 0,.int .i64 53,.slice none 0 0]],[.agg #[.int .i64 999000,.slice none 0 0,.int .i64 53,.slice none 0 0]]⟩
theorem Zqe:Qp cx.bare Qs 3000 .leaf f78 (Qd f78) Qkh=some ():=by kernel_rfl
theorem Zql:Qg cx.bare 78 Qkh:=Qg.Qi (Cx.Qm Qj) Qt (n:=3000) (an:=.leaf) (fn:=f78) (c:=Qd f78) (by kernel_rfl) (by kernel_rfl) Zqe (by kernel_rfl)
def Qi0:LC:=⟨[.agg #[.int .i64 0,.slice none 0 0,.int .i64 1,.slice none 0 0],.agg #[.int .i64 132000,.slice none 0 0,.int .i64 7,.slice none 0 0]],[.agg #[.int .i64 132000,.slice none 0 0,.int .i64 7,.slice none 0 0]]⟩
theorem Zqd:Qp cx.bare Qs 3000 .leaf f78 (Qd f78) Qi0=some ():=by kernel_rfl
theorem Zcq:Qg cx.bare 78 Qi0:=Qg.Qi (Cx.Qm Qj) Qt (n:=3000) (an:=.leaf) (fn:=f78) (c:=Qd f78) (by kernel_rfl) (by kernel_rfl) Zqd (by kernel_rfl)
def Qo4:LC:=⟨[.agg #[.int .i64 (-18849),.slice none 0 0,.int .i64 1,.slice none 0 0],.agg #[.int .i64 999000,.slice none 0 0,.int .i64 53,.slice none 0 0]],[.agg #[.int .i64 3,.slice none 0 0,.int .i64 53,.slice none 0 0]]⟩
theorem Znb:Qp cx.bare Qs 3000 .leaf f78 (Qd f78) Qo4=some ():=by kernel_rfl
theorem Znv:Qg cx.bare 78 Qo4:=Qg.Qi (Cx.Qm Qj) Qt (n:=3000) (an:=.leaf) (fn:=f78) (c:=Qd f78) (by kernel_rfl) (by kernel_rfl) Znb (by kernel_rfl)
def Qpb:LC:=⟨[.agg #[.int .i64 (-18849),.slice none 0 0,.int .i64 1,.slice none 0 0],.agg #[.int .i64 132000,.slice none 0 0,.int .i64 7,.slice none 0 0]],[.agg #[.int .i64 57,.slice none 0 0,.int .i64 7,.slice none 0 0]]⟩
theorem Zmh:Qp cx.bare Qs 3000 .leaf f78 (Qd f78) Qpb=some ():=by kernel_rfl
theorem Zhh:Qg cx.bare 78 Qpb:=Qg.Qi (Cx.Qm Qj) Qt (n:=3000) (an:=.leaf) (fn:=f78) (c:=Qd f78) (by kernel_rfl) (by kernel_rfl) Zmh (by kernel_rfl)
def Qny:LC:=⟨[.agg #[.int .i64 0,.slice none 0 0,.int .i64 1,.slice none 0 0],.agg #[.int .i64 1202130,.slice none 0 0,.int .i64 53,.slice none 0 0]],[.agg #[.int .i64 1202130,.slice none 0 0,.int .i64 53,.slice none 0 0]]⟩
theorem Zl7:Qp cx.bare Qs 3000 .leaf f78 (Qd f78) Qny=some ():=by kernel_rfl
theorem Zog:Qg cx.bare 78 Qny:=Qg.Qi (Cx.Qm Qj) Qt (n:=3000) (an:=.leaf) (fn:=f78) (c:=Qd f78) (by kernel_rfl) (by kernel_rfl) Zl7 (by kernel_rfl)
def Qhu:LC:=⟨[.agg #[.int .i64 0,.slice none 0 0,.int .i64 1,.slice none 0 0],.agg #[.int .i64 158840,.slice none 0 0,.int .i64 7,.slice none 0 0]],[.agg #[.int .i64 158840,.slice none 0 0,.int .i64 7,.slice none 0 0]]⟩
theorem Zgl:Qp cx.bare Qs 3000 .leaf f78 (Qd f78) Qhu=some ():=by kernel_rfl
theorem Zl9:Qg cx.bare 78 Qhu:=Qg.Qi (Cx.Qm Qj) Qt (n:=3000) (an:=.leaf) (fn:=f78) (c:=Qd f78) (by kernel_rfl) (by kernel_rfl) Zgl (by kernel_rfl)
def Qo3:LC:=⟨[.agg #[.int .i64 (-22681),.slice none 0 0,.int .i64 1,.slice none 0 0],.agg #[.int .i64 1202130,.slice none 0 0,.int .i64 53,.slice none 0 0]],[.agg #[.int .i64 37,.slice none 0 0,.int .i64 53,.slice none 0 0]]⟩
theorem Zq2:Qp cx.bare Qs 3000 .leaf f78 (Qd f78) Qo3=some ():=by kernel_rfl
theorem Zhs:Qg cx.bare 78 Qo3:=Qg.Qi (Cx.Qm Qj) Qt (n:=3000) (an:=.leaf) (fn:=f78) (c:=Qd f78) (by kernel_rfl) (by kernel_rfl) Zq2 (by kernel_rfl)
def Qko:LC:=⟨[.agg #[.int .i64 (-22681),.slice none 0 0,.int .i64 1,.slice none 0 0],.agg #[.int .i64 158840,.slice none 0 0,.int .i64 7,.slice none 0 0]],[.agg #[.int .i64 73,.slice none 0 0,.int .i64 7,.slice none 0 0]]⟩
theorem Zh2:Qp cx.bare Qs 3000 .leaf f78 (Qd f78) Qko=some ():=by kernel_rfl
theorem Znl:Qg cx.bare 78 Qko:=Qg.Qi (Cx.Qm Qj) Qt (n:=3000) (an:=.leaf) (fn:=f78) (c:=Qd f78) (by kernel_rfl) (by kernel_rfl) Zh2 (by kernel_rfl)
def Qie:LC:=⟨[.agg #[.int .i64 0,.slice none 0 0,.int .i64 1,.slice none 0 0],.agg #[.int .i64 1405260,.slice none 0 0,.int .i64 53,.slice none 0 0]],[.agg #[.int .i64 1405260,.slice none 0 0,.int .i64 53,.slice none 0 0]]⟩
theorem Zo7:Qp cx.bare Qs 3000 .leaf f78 (Qd f78) Qie=some ():=by kernel_rfl
theorem Zq4:Qg cx.bare 78 Qie:=Qg.Qi (Cx.Qm Qj) Qt (n:=3000) (an:=.leaf) (fn:=f78) (c:=Qd f78) (by kernel_rfl) (by kernel_rfl) Zo7 (by kernel_rfl)
def Qj4:LC:=⟨[.agg #[.int .i64 0,.slice none 0 0,.int .i64 1,.slice none 0 0],.agg #[.int .i64 185680,.slice none 0 0,.int .i64 7,.slice none 0 0]],[.agg #[.int .i64 185680,.slice none 0 0,.int .i64 7,.slice none 0 0]]⟩
theorem Zqq:Qp cx.bare Qs 3000 .leaf f78 (Qd f78) Qj4=some ():=by kernel_rfl
theorem Zq9:Qg cx.bare 78 Qj4:=Qg.Qi (Cx.Qm Qj) Qt (n:=3000) (an:=.leaf) (fn:=f78) (c:=Qd f78) (by kernel_rfl) (by kernel_rfl) Zqq (by kernel_rfl)
def Qng:LC:=⟨[.agg #[.int .i64 (-26514),.slice none 0 0,.int .i64 1,.slice none 0 0],.agg #[.int .i64 1405260,.slice none 0 0,.int .i64 53,.slice none 0 0]],[.agg #[.int .i64 18,.slice none 0 0,.int .i64 53,.slice none 0 0]]⟩
theorem Ze0:Qp cx.bare Qs 3000 .leaf f78 (Qd f78) Qng=some ():=by kernel_rfl
theorem Zrt:Qg cx.bare 78 Qng:=Qg.Qi (Cx.Qm Qj) Qt (n:=3000) (an:=.leaf) (fn:=f78) (c:=Qd f78) (by kernel_rfl) (by kernel_rfl) Ze0 (by kernel_rfl)
def Qmg:LC:=⟨[.agg #[.int .i64 (-26514),.slice none 0 0,.int .i64 1,.slice none 0 0],.agg #[.int .i64 185680,.slice none 0 0,.int .i64 7,.slice none 0 0]],[.agg #[.int .i64 82,.slice none 0 0,.int .i64 7,.slice none 0 0]]⟩
theorem Zm8:Qp cx.bare Qs 3000 .leaf f78 (Qd f78) Qmg=some ():=by kernel_rfl
theorem Zft:Qg cx.bare 78 Qmg:=Qg.Qi (Cx.Qm Qj) Qt (n:=3000) (an:=.leaf) (fn:=f78) (c:=Qd f78) (by kernel_rfl) (by kernel_rfl) Zm8 (by kernel_rfl)
def Qi1:LC:=⟨[.agg #[.int .i64 0,.slice none 0 0,.int .i64 1,.slice none 0 0],.agg #[.int .i64 333,.slice none 0 0,.int .i64 106,.slice none 0 0]],[.agg #[.int .i64 333,.slice none 0 0,.int .i64 106,.slice none 0 0]]⟩
theorem Zd6:Qp cx.bare Qs 3000 .leaf f78 (Qd f78) Qi1=some ():=by kernel_rfl
theorem Zfg:Qg cx.bare 78 Qi1:=Qg.Qi (Cx.Qm Qj) Qt (n:=3000) (an:=.leaf) (fn:=f78) (c:=Qd f78) (by kernel_rfl) (by kernel_rfl) Zd6 (by kernel_rfl)
def Qmy:LC:=⟨[.agg #[.int .i64 0,.slice none 0 0,.int .i64 1,.slice none 0 0],.agg #[.int .i64 22,.slice none 0 0,.int .i64 7,.slice none 0 0]],[.agg #[.int .i64 22,.slice none 0 0,.int .i64 7,.slice none 0 0]]⟩
theorem Zgn:Qp cx.bare Qs 3000 .leaf f78 (Qd f78) Qmy=some ():=by kernel_rfl
theorem Zc1:Qg cx.bare 78 Qmy:=Qg.Qi (Cx.Qm Qj) Qt (n:=3000) (an:=.leaf) (fn:=f78) (c:=Qd f78) (by kernel_rfl) (by kernel_rfl) Zgn (by kernel_rfl)
def Qhj:LC:=⟨[.agg #[.int .i64 6127200,.slice none 0 0,.int .i64 53,.slice none 0 0],.agg #[.int .i64 84390,.slice none 0 0,.int .i64 1,.slice none 0 0]],[.agg #[.int .i64 10599870,.slice none 0 0,.int .i64 53,.slice none 0 0]]⟩
theorem Zav:Qp cx.bare Qs 3000 .leaf f78 (Qd f78) Qhj=some ():=by kernel_rfl
theorem Zle:Qg cx.bare 78 Qhj:=Qg.Qi (Cx.Qm Qj) Qt (n:=3000) (an:=.leaf) (fn:=f78) (c:=Qd f78) (by kernel_rfl) (by kernel_rfl) Zav (by kernel_rfl)
def Qka:LC:=⟨[.agg #[.int .i64 116000,.slice none 0 0,.int .i64 1,.slice none 0 0],.agg #[.int .i64 0,.slice none 0 0,.int .i64 1,.slice none 0 0]],[.agg #[.int .i64 116000,.slice none 0 0,.int .i64 1,.slice none 0 0]]⟩
theorem Zsz:Qp cx.bare Qs 3000 .leaf f78 (Qd f78) Qka=some ():=by kernel_rfl
theorem Zij:Qg cx.bare 78 Qka:=Qg.Qi (Cx.Qm Qj) Qt (n:=3000) (an:=.leaf) (fn:=f78) (c:=Qd f78) (by kernel_rfl) (by kernel_rfl) Zsz (by kernel_rfl)
def Qow:LC:=⟨[.agg #[.int .i64 116000,.slice none 0 0,.int .i64 1,.slice none 0 0],.agg #[.int .i64 (-6127200),.slice none 0 0,.int .i64 53,.slice none 0 0]],[.agg #[.int .i64 20800,.slice none 0 0,.int .i64 53,.slice none 0 0]]⟩
theorem Zj9:Qp cx.bare Qs 3000 .leaf f78 (Qd f78) Qow=some ():=by kernel_rfl
theorem Zk2:Qg cx.bare 78 Qow:=Qg.Qi (Cx.Qm Qj) Qt (n:=3000) (an:=.leaf) (fn:=f78) (c:=Qd f78) (by kernel_rfl) (by kernel_rfl) Zj9 (by kernel_rfl)
def Qpa:LC:=⟨[.agg #[.int .i64 809600,.slice none 0 0,.int .i64 7,.slice none 0 0],.agg #[.int .i64 84390,.slice none 0 0,.int .i64 1,.slice none 0 0]],[.agg #[.int .i64 1400330,.slice none 0 0,.int .i64 7,.slice none 0 0]]⟩
theorem Zrz:Qp cx.bare Qs 3000 .leaf f78 (Qd f78) Qpa=some ():=by kernel_rfl
theorem Zp3:Qg cx.bare 78 Qpa:=Qg.Qi (Cx.Qm Qj) Qt (n:=3000) (an:=.leaf) (fn:=f78) (c:=Qd f78) (by kernel_rfl) (by kernel_rfl) Zrz (by kernel_rfl)
def Qkk:LC:=⟨[.agg #[.int .i64 116000,.slice none 0 0,.int .i64 1,.slice none 0 0],.agg #[.int .i64 (-809600),.slice none 0 0,.int .i64 7,.slice none 0 0]],[.agg #[.int .i64 2400,.slice none 0 0,.int .i64 7,.slice none 0 0]]⟩
theorem Zc0:Qp cx.bare Qs 3000 .leaf f78 (Qd f78) Qkk=some ():=by kernel_rfl
theorem Zmz:Qg cx.bare 78 Qkk:=Qg.Qi (Cx.Qm Qj) Qt (n:=3000) (an:=.leaf) (fn:=f78) (c:=Qd f78) (by kernel_rfl) (by kernel_rfl) Zc0 (by kernel_rfl)
def Qlk:LC:=⟨[.agg #[.int .i64 115630,.slice none 0 0,.int .i64 1,.slice none 0 0],.agg #[.int .i64 0,.slice none 0 0,.int .i64 1,.slice none 0 0]],[.agg #[.int .i64 115630,.slice none 0 0,.int .i64 1,.slice none 0 0]]⟩
theorem Za6:Qp cx.bare Qs 3000 .leaf f78 (Qd f78) Qlk=some ():=by kernel_rfl
theorem Zl4:Qg cx.bare 78 Qlk:=Qg.Qi (Cx.Qm Qj) Qt (n:=3000) (an:=.leaf) (fn:=f78) (c:=Qd f78) (by kernel_rfl) (by kernel_rfl) Za6 (by kernel_rfl)
def Qjr:LC:=⟨[.agg #[.int .i64 115630,.slice none 0 0,.int .i64 1,.slice none 0 0],.agg #[.int .i64 (-6127200),.slice none 0 0,.int .i64 53,.slice none 0 0]],[.agg #[.int .i64 1190,.slice none 0 0,.int .i64 53,.slice none 0 0]]⟩
theorem Zk7:Qp cx.bare Qs 3000 .leaf f78 (Qd f78) Qjr=some ():=by kernel_rfl
theorem Zjd:Qg cx.bare 78 Qjr:=Qg.Qi (Cx.Qm Qj) Qt (n:=3000) (an:=.leaf) (fn:=f78) (c:=Qd f78) (by kernel_rfl) (by kernel_rfl) Zk7 (by kernel_rfl)
def Qo8:LC:=⟨[.agg #[.int .i64 0,.slice none 0 0,.int .i64 1,.slice none 0 0],.agg #[.int .i64 0,.slice none 0 0,.int .i64 1,.slice none 0 0]],[.int .i64 0]⟩
theorem Zr5:Qp cx.bare Qs 3000 .leaf f83 (Qd f83) Qo8=some ():=by kernel_rfl
theorem Zh7:Qg cx.bare 83 Qo8:=Qg.Qi (Cx.Qm Qj) Qt (n:=3000) (an:=.leaf) (fn:=f83) (c:=Qd f83) (by kernel_rfl) (by kernel_rfl) Zr5 (by kernel_rfl)
def Qkj:LC:=⟨[.agg #[.int .i64 26,.slice none 0 0,.int .i64 53,.slice none 0 0],.agg #[.int .i64 2,.slice none 0 0,.int .i64 1,.slice none 0 0]],[.int .i64 (-1)]⟩
theorem Zem:Qp cx.bare Qs 3000 .leaf f83 (Qd f83) Qkj=some ():=by kernel_rfl
theorem Zlb:Qg cx.bare 83 Qkj:=Qg.Qi (Cx.Qm Qj) Qt (n:=3000) (an:=.leaf) (fn:=f83) (c:=Qd f83) (by kernel_rfl) (by kernel_rfl) Zem (by kernel_rfl)
def Qki:LC:=⟨[.agg #[.int .i64 7,.slice none 0 0,.int .i64 53,.slice none 0 0],.agg #[.int .i64 23,.slice none 0 0,.int .i64 7,.slice none 0 0]],[.int .i64 (-1)]⟩
theorem Zm7:Qp cx.bare Qs 3000 .leaf f83 (Qd f83) Qki=some ():=by kernel_rfl
theorem Zak:Qg cx.bare 83 Qki:=Qg.Qi (Cx.Qm Qj) Qt (n:=3000) (an:=.leaf) (fn:=f83) (c:=Qd f83) (by kernel_rfl) (by kernel_rfl) Zm7 (by kernel_rfl)
def Qhf:LC:=⟨[.agg #[.int .i64 41,.slice none 0 0,.int .i64 53,.slice none 0 0],.agg #[.int .i64 39,.slice none 0 0,.int .i64 7,.slice none 0 0]],[.int .i64 (-1)]⟩
theorem Zr0:Qp cx.bare Qs 3000 .leaf f83 (Qd f83) Qhf=some ():=by kernel_rfl
theorem Zo8:Qg cx.bare 83 Qhf:=Qg.Qi (Cx.Qm Qj) Qt (n:=3000) (an:=.leaf) (fn:=f83) (c:=Qd f83) (by kernel_rfl) (by kernel_rfl) Zr0 (by kernel_rfl)
def Qo2:LC:=⟨[.agg #[.int .i64 22,.slice none 0 0,.int .i64 53,.slice none 0 0],.agg #[.int .i64 48,.slice none 0 0,.int .i64 7,.slice none 0 0]],[.int .i64 (-1)]⟩
theorem Zid:Qp cx.bare Qs 3000 .leaf f83 (Qd f83) Qo2=some ():=by kernel_rfl
theorem Zsn:Qg cx.bare 83 Qo2:=Qg.Qi (Cx.Qm Qj) Qt (n:=3000) (an:=.leaf) (fn:=f83) (c:=Qd f83) (by kernel_rfl) (by kernel_rfl) Zid (by kernel_rfl)
def Qk9:LC:=⟨[.agg #[.int .i64 3,.slice none 0 0,.int .i64 53,.slice none 0 0],.agg #[.int .i64 57,.slice none 0 0,.int .i64 7,.slice none 0 0]],[.int .i64 (-1)]⟩
theorem Zol:Qp cx.bare Qs 3000 .leaf f83 (Qd f83) Qk9=some ():=by kernel_rfl
theorem Ziy:Qg cx.bare 83 Qk9:=Qg.Qi (Cx.Qm Qj) Qt (n:=3000) (an:=.leaf) (fn:=f83) (c:=Qd f83) (by kernel_rfl) (by kernel_rfl) Zol (by kernel_rfl)
def Qjn:LC:=⟨[.agg #[.int .i64 37,.slice none 0 0,.int .i64 53,.slice none 0 0],.agg #[.int .i64 73,.slice none 0 0,.int .i64 7,.slice none 0 0]],[.int .i64 (-1)]⟩
theorem Zq8:Qp cx.bare Qs 3000 .leaf f83 (Qd f83) Qjn=some ():=by kernel_rfl
theorem Zrm:Qg cx.bare 83 Qjn:=Qg.Qi (Cx.Qm Qj) Qt (n:=3000) (an:=.leaf) (fn:=f83) (c:=Qd f83) (by kernel_rfl) (by kernel_rfl) Zq8 (by kernel_rfl)
def Qit:LC:=⟨[.agg #[.int .i64 18,.slice none 0 0,.int .i64 53,.slice none 0 0],.agg #[.int .i64 82,.slice none 0 0,.int .i64 7,.slice none 0 0]],[.int .i64 (-1)]⟩
theorem Zhj:Qp cx.bare Qs 3000 .leaf f83 (Qd f83) Qit=some ():=by kernel_rfl
theorem Zau:Qg cx.bare 83 Qit:=Qg.Qi (Cx.Qm Qj) Qt (n:=3000) (an:=.leaf) (fn:=f83) (c:=Qd f83) (by kernel_rfl) (by kernel_rfl) Zhj (by kernel_rfl)
def Qg4:LC:=⟨[.agg #[.int .i64 116000,.slice none 0 0,.int .i64 1,.slice none 0 0],.agg #[.int .i64 6127200,.slice none 0 0,.int .i64 53,.slice none 0 0]],[.int .i64 1]⟩
theorem Zs7:Qp cx.bare Qs 3000 .leaf f83 (Qd f83) Qg4=some ():=by kernel_rfl
theorem Zmg:Qg cx.bare 83 Qg4:=Qg.Qi (Cx.Qm Qj) Qt (n:=3000) (an:=.leaf) (fn:=f83) (c:=Qd f83) (by kernel_rfl) (by kernel_rfl) Zs7 (by kernel_rfl)
def Qli:LC:=⟨[.agg #[.int .i64 20800,.slice none 0 0,.int .i64 53,.slice none 0 0],.agg #[.int .i64 84390,.slice none 0 0,.int .i64 1,.slice none 0 0]],[.int .i64 (-1)]⟩
theorem Zp5:Qp cx.bare Qs 3000 .leaf f83 (Qd f83) Qli=some ():=by kernel_rfl
theorem Zkh:Qg cx.bare 83 Qli:=Qg.Qi (Cx.Qm Qj) Qt (n:=3000) (an:=.leaf) (fn:=f83) (c:=Qd f83) (by kernel_rfl) (by kernel_rfl) Zp5 (by kernel_rfl)
def Qnt:LC:=⟨[.agg #[.int .i64 116000,.slice none 0 0,.int .i64 1,.slice none 0 0],.agg #[.int .i64 809600,.slice none 0 0,.int .i64 7,.slice none 0 0]],[.int .i64 1]⟩
theorem Zbn:Qp cx.bare Qs 3000 .leaf f83 (Qd f83) Qnt=some ():=by kernel_rfl
theorem Zhk:Qg cx.bare 83 Qnt:=Qg.Qi (Cx.Qm Qj) Qt (n:=3000) (an:=.leaf) (fn:=f83) (c:=Qd f83) (by kernel_rfl) (by kernel_rfl) Zbn (by kernel_rfl)
def Qod:LC:=⟨[.agg #[.int .i64 2400,.slice none 0 0,.int .i64 7,.slice none 0 0],.agg #[.int .i64 84390,.slice none 0 0,.int .i64 1,.slice none 0 0]],[.int .i64 (-1)]⟩
theorem Zb9:Qp cx.bare Qs 3000 .leaf f83 (Qd f83) Qod=some ():=by kernel_rfl
theorem Zm4:Qg cx.bare 83 Qod:=Qg.Qi (Cx.Qm Qj) Qt (n:=3000) (an:=.leaf) (fn:=f83) (c:=Qd f83) (by kernel_rfl) (by kernel_rfl) Zb9 (by kernel_rfl)
def Qp1:LC:=⟨[.agg #[.int .i64 20800,.slice none 0 0,.int .i64 53,.slice none 0 0],.agg #[.int .i64 2400,.slice none 0 0,.int .i64 7,.slice none 0 0]],[.int .i64 1]⟩
theorem Zcj:Qp cx.bare Qs 3000 .leaf f83 (Qd f83) Qp1=some ():=by kernel_rfl
theorem Zit:Qg cx.bare 83 Qp1:=Qg.Qi (Cx.Qm Qj) Qt (n:=3000) (an:=.leaf) (fn:=f83) (c:=Qd f83) (by kernel_rfl) (by kernel_rfl) Zcj (by kernel_rfl)
def Qlz:LC:=⟨[.agg #[.int .i64 115630,.slice none 0 0,.int .i64 1,.slice none 0 0],.agg #[.int .i64 6127200,.slice none 0 0,.int .i64 53,.slice none 0 0]],[.int .i64 1]⟩
theorem Zd5:Qp cx.bare Qs 3000 .leaf f83 (Qd f83) Qlz=some ():=by kernel_rfl
theorem Zm5:Qg cx.bare 83 Qlz:=Qg.Qi (Cx.Qm Qj) Qt (n:=3000) (an:=.leaf) (fn:=f83) (c:=Qd f83) (by kernel_rfl) (by kernel_rfl) Zd5 (by kernel_rfl)
def Qkf:LC:=⟨[.agg #[.int .i64 1190,.slice none 0 0,.int .i64 53,.slice none 0 0],.agg #[.int .i64 84390,.slice none 0 0,.int .i64 1,.slice none 0 0]],[.int .i64 (-1)]⟩
theorem Zdh:Qp cx.bare Qs 3000 .leaf f83 (Qd f83) Qkf=some ():=by kernel_rfl
theorem Zge:Qg cx.bare 83 Qkf:=Qg.Qi (Cx.Qm Qj) Qt (n:=3000) (an:=.leaf) (fn:=f83) (c:=Qd f83) (by kernel_rfl) (by kernel_rfl) Zdh (by kernel_rfl)
def Qnh:LC:=⟨[.agg #[.int .i64 115630,.slice none 0 0,.int .i64 1,.slice none 0 0],.agg #[.int .i64 809600,.slice none 0 0,.int .i64 7,.slice none 0 0]],[.int .i64 (-1)]⟩
theorem Zls:Qp cx.bare Qs 3000 .leaf f83 (Qd f83) Qnh=some ():=by kernel_rfl
theorem Zbi:Qg cx.bare 83 Qnh:=Qg.Qi (Cx.Qm Qj) Qt (n:=3000) (an:=.leaf) (fn:=f83) (c:=Qd f83) (by kernel_rfl) (by kernel_rfl) Zls (by kernel_rfl)
def Ql1:LC:=⟨[.agg #[.int .i64 0,.slice none 0 0,.int .i64 1,.slice none 0 0]],[.agg #[.int .i64 0,.slice none 0 0]]⟩
theorem Zay:Qp cx.bare Qs 3000 .leaf f75 (Qd f75) Ql1=some ():=by kernel_rfl
theorem Znr:Qg cx.bare 75 Ql1:=Qg.Qi (Cx.Qm Qj) Qt (n:=3000) (an:=.leaf) (fn:=f75) (c:=Qd f75) (by kernel_rfl) (by kernel_rfl) Zay (by kernel_rfl)
def Qky:LC:=⟨[.agg #[.int .i64 186480,.slice none 0 0,.int .i64 53,.slice none 0 0]],[.agg #[.int .i64 3518,.slice none 0 0]]⟩
theorem Zhc:Qp cx.bare Qs 3000 .leaf f75 (Qd f75) Qky=some ():=by kernel_rfl
theorem Ze6:Qg cx.bare 75 Qky:=Qg.Qi (Cx.Qm Qj) Qt (n:=3000) (an:=.leaf) (fn:=f75) (c:=Qd f75) (by kernel_rfl) (by kernel_rfl) Zhc (by kernel_rfl)
def Qh7:LC:=⟨[.agg #[.int .i64 389610,.slice none 0 0,.int .i64 53,.slice none 0 0]],[.agg #[.int .i64 7351,.slice none 0 0]]⟩
theorem Zq0:Qp cx.bare Qs 3000 .leaf f75 (Qd f75) Qh7=some ():=by kernel_rfl
theorem Zas:Qg cx.bare 75 Qh7:=Qg.Qi (Cx.Qm Qj) Qt (n:=3000) (an:=.leaf) (fn:=f75) (c:=Qd f75) (by kernel_rfl) (by kernel_rfl) Zq0 (by kernel_rfl)
def Qop:LC:=⟨[.agg #[.int .i64 592740,.slice none 0 0,.int .i64 53,.slice none 0 0]],[.agg #[.int .i64 11183,.slice none 0 0]]⟩
theorem Zi8:Qp cx.bare Qs 3000 .leaf f75 (Qd f75) Qop=some ():=by kernel_rfl
theorem Zf5:Qg cx.bare 75 Qop:=Qg.Qi (Cx.Qm Qj) Qt (n:=3000) (an:=.leaf) (fn:=f75) (c:=Qd f75) (by kernel_rfl) (by kernel_rfl) Zi8 (by kernel_rfl)
def Qjf:LC:=⟨[.agg #[.int .i64 795870,.slice none 0 0,.int .i64 53,.slice none 0 0]],[.agg #[.int .i64 15016,.slice none 0 0]]⟩
theorem Zao:Qp cx.bare Qs 3000 .leaf f75 (Qd f75) Qjf=some ():=by kernel_rfl
theorem Zfk:Qg cx.bare 75 Qjf:=Qg.Qi (Cx.Qm Qj) Qt (n:=3000) (an:=.leaf) (fn:=f75) (c:=Qd f75) (by kernel_rfl) (by kernel_rfl) Zao (by kernel_rfl)
def Qpx:LC:=⟨[.agg #[.int .i64 999000,.slice none 0 0,.int .i64 53,.slice none 0 0]],[.agg #[.int .i64 18849,.slice none 0 0]]⟩
theorem Zo3:Qp cx.bare Qs 3000 .leaf f75 (Qd f75) Qpx=some ():=by kernel_rfl
theorem Zju:Qg cx.bare 75 Qpx:=Qg.Qi (Cx.Qm Qj) Qt (n:=3000) (an:=.leaf) (fn:=f75) (c:=Qd f75) (by kernel_rfl) (by kernel_rfl) Zo3 (by kernel_rfl)
def Qmq:LC:=⟨[.agg #[.int .i64 1202130,.slice none 0 0,.int .i64 53,.slice none 0 0]],[.agg #[.int .i64 22681,.slice none 0 0]]⟩
theorem Zis:Qp cx.bare Qs 3000 .leaf f75 (Qd f75) Qmq=some ():=by kernel_rfl
theorem Zdk:Qg cx.bare 75 Qmq:=Qg.Qi (Cx.Qm Qj) Qt (n:=3000) (an:=.leaf) (fn:=f75) (c:=Qd f75) (by kernel_rfl) (by kernel_rfl) Zis (by kernel_rfl)
def Qkd:LC:=⟨[.agg #[.int .i64 1405260,.slice none 0 0,.int .i64 53,.slice none 0 0]],[.agg #[.int .i64 26514,.slice none 0 0]]⟩
theorem Zke:Qp cx.bare Qs 3000 .leaf f75 (Qd f75) Qkd=some ():=by kernel_rfl
theorem Zer:Qg cx.bare 75 Qkd:=Qg.Qi (Cx.Qm Qj) Qt (n:=3000) (an:=.leaf) (fn:=f75) (c:=Qd f75) (by kernel_rfl) (by kernel_rfl) Zke (by kernel_rfl)
def Qlw:LC:=⟨[.agg #[.int .i64 307400,.slice none 0 0,.int .i64 1059987,.slice none 0 0]],[.agg #[.int .i64 0,.slice none 0 0]]⟩
theorem Zb3:Qp cx.bare Qs 3000 .leaf f75 (Qd f75) Qlw=some ():=by kernel_rfl
theorem Zkl:Qg cx.bare 75 Qlw:=Qg.Qi (Cx.Qm Qj) Qt (n:=3000) (an:=.leaf) (fn:=f75) (c:=Qd f75) (by kernel_rfl) (by kernel_rfl) Zb3 (by kernel_rfl)
def Qp0:LC:=⟨[.agg #[.int .i64 40600,.slice none 0 0,.int .i64 140033,.slice none 0 0]],[.agg #[.int .i64 0,.slice none 0 0]]⟩
theorem Znd:Qp cx.bare Qs 3000 .leaf f75 (Qd f75) Qp0=some ():=by kernel_rfl
theorem Zdq:Qg cx.bare 75 Qp0:=Qg.Qi (Cx.Qm Qj) Qt (n:=3000) (an:=.leaf) (fn:=f75) (c:=Qd f75) (by kernel_rfl) (by kernel_rfl) Znd (by kernel_rfl)
def Qg8:LC:=⟨[.agg #[.int .i64 612839,.slice none 0 0,.int .i64 2119974,.slice none 0 0]],[.agg #[.int .i64 0,.slice none 0 0]]⟩
theorem Zlu:Qp cx.bare Qs 3000 .leaf f75 (Qd f75) Qg8=some ():=by kernel_rfl
theorem Zjz:Qg cx.bare 75 Qg8:=Qg.Qi (Cx.Qm Qj) Qt (n:=3000) (an:=.leaf) (fn:=f75) (c:=Qd f75) (by kernel_rfl) (by kernel_rfl) Zlu (by kernel_rfl)
def Qo5:LC:=⟨[.agg #[.int .i64 80941,.slice none 0 0,.int .i64 280066,.slice none 0 0]],[.agg #[.int .i64 0,.slice none 0 0]]⟩
theorem Zpm:Qp cx.bare Qs 3000 .leaf f75 (Qd f75) Qo5=some ():=by kernel_rfl
theorem Zsa:Qg cx.bare 75 Qo5:=Qg.Qi (Cx.Qm Qj) Qt (n:=3000) (an:=.leaf) (fn:=f75) (c:=Qd f75) (by kernel_rfl) (by kernel_rfl) Zpm (by kernel_rfl)
end Go.Proofs.Tryz
