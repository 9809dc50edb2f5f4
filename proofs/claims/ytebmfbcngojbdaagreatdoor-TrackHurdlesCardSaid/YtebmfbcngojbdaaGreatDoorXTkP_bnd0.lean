/- closed runs of (stadion/track.length).bounds closed runs of (stadion/track.length).bounds And further parts. -/
import Derived.Test.YtebmfbcngojbdaaGreatDoorXTkN_add2
import Derived.Test.YtebmfbcngojbdaaGreatDoorXTkIt
import Derived.Test.YtebmfbcngojbdaaGreatDoorXTkCx
import Derived.Test.YtebmfbcngojbdaaGreatDoorXTkWl
set_option maxRecDepth 1000000
set_option linter.unusedVariables false
set_option linter.all false
namespace Go.Proofs.Tryz
open Go Go.Sx
def Qna:LC:=⟨[.agg #[.int .i64 0,.int .i64 0]],[.agg #[.int .i64 0,.slice none 0 0,.int .i64 1,.slice none 0 0],.agg #[.int .i64 0,.slice none 0 0,.int .i64 1,.slice none 0 0]]⟩
theorem Qwn:Qp cx.bare lxN 3000 .leaf f58 (Qe f58) Qna=some ():=by kernel_rfl
theorem Zc3:Qg cx.bare 58 Qna:=Qg.Qk (Cx.Qm Ql) Zg (n:=3000) (an:=.leaf) (fn:=f58) (c:=Qe f58) (by kernel_rfl) (by kernel_rfl) Qwn (by kernel_rfl)
def Qi4:LC:=⟨[.agg #[.int .i64 0,.int .i64 1120]],[.agg #[.int .i64 186480,.slice none 0 0,.int .i64 53,.slice none 0 0],.agg #[.int .i64 3520,.slice none 0 0,.int .i64 1,.slice none 0 0]]⟩
theorem Zav:Qp cx.bare lxN 3000 .leaf f58 (Qe f58) Qi4=some ():=by kernel_rfl
theorem Qz1:Qg cx.bare 58 Qi4:=Qg.Qk (Cx.Qm Ql) Zg (n:=3000) (an:=.leaf) (fn:=f58) (c:=Qe f58) (by kernel_rfl) (by kernel_rfl) Zav (by kernel_rfl)
def Qm3:LC:=⟨[.agg #[.int .i64 (-3518),.int .i64 1120]],[.agg #[.int .i64 26,.slice none 0 0,.int .i64 53,.slice none 0 0],.agg #[.int .i64 2,.slice none 0 0,.int .i64 1,.slice none 0 0]]⟩
theorem Qxk:Qp cx.bare lxN 3000 .leaf f58 (Qe f58) Qm3=some ():=by kernel_rfl
theorem Zk5:Qg cx.bare 58 Qm3:=Qg.Qk (Cx.Qm Ql) Zg (n:=3000) (an:=.leaf) (fn:=f58) (c:=Qe f58) (by kernel_rfl) (by kernel_rfl) Qxk (by kernel_rfl)
def Qgf:LC:=⟨[.agg #[.int .i64 0,.int .i64 2340]],[.agg #[.int .i64 389610,.slice none 0 0,.int .i64 53,.slice none 0 0],.agg #[.int .i64 51480,.slice none 0 0,.int .i64 7,.slice none 0 0]]⟩
theorem Zjo:Qp cx.bare lxN 3000 .leaf f58 (Qe f58) Qgf=some ():=by kernel_rfl
theorem Zeu:Qg cx.bare 58 Qgf:=Qg.Qk (Cx.Qm Ql) Zg (n:=3000) (an:=.leaf) (fn:=f58) (c:=Qe f58) (by kernel_rfl) (by kernel_rfl) Zjo (by kernel_rfl)
def Qm9:LC:=⟨[.agg #[.int .i64 (-7351),.int .i64 2340]],[.agg #[.int .i64 7,.slice none 0 0,.int .i64 53,.slice none 0 0],.agg #[.int .i64 23,.slice none 0 0,.int .i64 7,.slice none 0 0]]⟩
theorem Zcv:Qp cx.bare lxN 3000 .leaf f58 (Qe f58) Qm9=some ():=by kernel_rfl
theorem Qx8:Qg cx.bare 58 Qm9:=Qg.Qk (Cx.Qm Ql) Zg (n:=3000) (an:=.leaf) (fn:=f58) (c:=Qe f58) (by kernel_rfl) (by kernel_rfl) Zcv (by kernel_rfl)
def Qkt:LC:=⟨[.agg #[.int .i64 0,.int .i64 3560]],[.agg #[.int .i64 592740,.slice none 0 0,.int .i64 53,.slice none 0 0],.agg #[.int .i64 78320,.slice none 0 0,.int .i64 7,.slice none 0 0]]⟩
theorem Zi3:Qp cx.bare lxN 3000 .leaf f58 (Qe f58) Qkt=some ():=by kernel_rfl
theorem Zb6:Qg cx.bare 58 Qkt:=Qg.Qk (Cx.Qm Ql) Zg (n:=3000) (an:=.leaf) (fn:=f58) (c:=Qe f58) (by kernel_rfl) (by kernel_rfl) Zi3 (by kernel_rfl)
def Qjj:LC:=⟨[.agg #[.int .i64 (-11183),.int .i64 3560]],[.agg #[.int .i64 41,.slice none 0 0,.int .i64 53,.slice none 0 0],.agg #[.int .i64 39,.slice none 0 0,.int .i64 7,.slice none 0 0]]⟩
theorem Zl4:Qp cx.bare lxN 3000 .leaf f58 (Qe f58) Qjj=some ():=by kernel_rfl
theorem Ziu:Qg cx.bare 58 Qjj:=Qg.Qk (Cx.Qm Ql) Zg (n:=3000) (an:=.leaf) (fn:=f58) (c:=Qe f58) (by kernel_rfl) (by kernel_rfl) Zl4 (by kernel_rfl)
def Qn7:LC:=⟨[.agg #[.int .i64 0,.int .i64 4780]],[.agg #[.int .i64 795870,.slice none 0 0,.int .i64 53,.slice none 0 0],.agg #[.int .i64 105160,.slice none 0 0,.int .i64 7,.slice none 0 0]]⟩
theorem Zal:Qp cx.bare lxN 3000 .leaf f58 (Qe f58) Qn7=some ():=by kernel_rfl
theorem Zju:Qg cx.bare 58 Qn7:=Qg.Qk (Cx.Qm Ql) Zg (n:=3000) (an:=.leaf) (fn:=f58) (c:=Qe f58) (by kernel_rfl) (by kernel_rfl) Zal (by kernel_rfl)
def Qni:LC:=⟨[.agg #[.int .i64 (-15016),.int .i64 4780]],[.agg #[.int .i64 22,.slice none 0 0,.int .i64 53,.slice none 0 0],.agg #[.int .i64 48,.slice none 0 0,.int .i64 7,.slice none 0 0]]⟩
theorem Zht:Qp cx.bare lxN 3000 .leaf f58 (Qe f58) Qni=some ():=by kernel_rfl
theorem Zaf:Qg cx.bare 58 Qni:=Qg.Qk (Cx.Qm Ql) Zg (n:=3000) (an:=.leaf) (fn:=f58) (c:=Qe f58) (by kernel_rfl) (by kernel_rfl) Zht (by kernel_rfl)
def Qgj:LC:=⟨[.agg #[.int .i64 0,.int .i64 6000]],[.agg #[.int .i64 999000,.slice none 0 0,.int .i64 53,.slice none 0 0],.agg #[.int .i64 132000,.slice none 0 0,.int .i64 7,.slice none 0 0]]⟩
theorem Zet:Qp cx.bare lxN 3000 .leaf f58 (Qe f58) Qgj=some ():=by kernel_rfl
theorem Zdd:Qg cx.bare 58 Qgj:=Qg.Qk (Cx.Qm Ql) Zg (n:=3000) (an:=.leaf) (fn:=f58) (c:=Qe f58) (by kernel_rfl) (by kernel_rfl) Zet (by kernel_rfl)
def Qj3:LC:=⟨[.agg #[.int .i64 (-18849),.int .i64 6000]],[.agg #[.int .i64 3,.slice none 0 0,.int .i64 53,.slice none 0 0],.agg #[.int .i64 57,.slice none 0 0,.int .i64 7,.slice none 0 0]]⟩
theorem Zgj:Qp cx.bare lxN 3000 .leaf f58 (Qe f58) Qj3=some ():=by kernel_rfl
theorem Zha:Qg cx.bare 58 Qj3:=Qg.Qk (Cx.Qm Ql) Zg (n:=3000) (an:=.leaf) (fn:=f58) (c:=Qe f58) (by kernel_rfl) (by kernel_rfl) Zgj (by kernel_rfl)
def Qh7:LC:=⟨[.agg #[.int .i64 0,.int .i64 7220]],[.agg #[.int .i64 1202130,.slice none 0 0,.int .i64 53,.slice none 0 0],.agg #[.int .i64 158840,.slice none 0 0,.int .i64 7,.slice none 0 0]]⟩
theorem Qyb:Qp cx.bare lxN 3000 .leaf f58 (Qe f58) Qh7=some ():=by kernel_rfl
theorem Zgz:Qg cx.bare 58 Qh7:=Qg.Qk (Cx.Qm Ql) Zg (n:=3000) (an:=.leaf) (fn:=f58) (c:=Qe f58) (by kernel_rfl) (by kernel_rfl) Qyb (by kernel_rfl)
def Qgr:LC:=⟨[.agg #[.int .i64 (-22681),.int .i64 7220]],[.agg #[.int .i64 37,.slice none 0 0,.int .i64 53,.slice none 0 0],.agg #[.int .i64 73,.slice none 0 0,.int .i64 7,.slice none 0 0]]⟩
theorem Zjv:Qp cx.bare lxN 3000 .leaf f58 (Qe f58) Qgr=some ():=by kernel_rfl
theorem Zat:Qg cx.bare 58 Qgr:=Qg.Qk (Cx.Qm Ql) Zg (n:=3000) (an:=.leaf) (fn:=f58) (c:=Qe f58) (by kernel_rfl) (by kernel_rfl) Zjv (by kernel_rfl)
def Ql4:LC:=⟨[.agg #[.int .i64 0,.int .i64 8440]],[.agg #[.int .i64 1405260,.slice none 0 0,.int .i64 53,.slice none 0 0],.agg #[.int .i64 185680,.slice none 0 0,.int .i64 7,.slice none 0 0]]⟩
theorem Qy8:Qp cx.bare lxN 3000 .leaf f58 (Qe f58) Ql4=some ():=by kernel_rfl
theorem Zbs:Qg cx.bare 58 Ql4:=Qg.Qk (Cx.Qm Ql) Zg (n:=3000) (an:=.leaf) (fn:=f58) (c:=Qe f58) (by kernel_rfl) (by kernel_rfl) Qy8 (by kernel_rfl)
def Qj6:LC:=⟨[.agg #[.int .i64 (-26514),.int .i64 8440]],[.agg #[.int .i64 18,.slice none 0 0,.int .i64 53,.slice none 0 0],.agg #[.int .i64 82,.slice none 0 0,.int .i64 7,.slice none 0 0]]⟩
theorem Zc7:Qp cx.bare lxN 3000 .leaf f58 (Qe f58) Qj6=some ():=by kernel_rfl
theorem Zhe:Qg cx.bare 58 Qj6:=Qg.Qk (Cx.Qm Ql) Zg (n:=3000) (an:=.leaf) (fn:=f58) (c:=Qe f58) (by kernel_rfl) (by kernel_rfl) Zc7 (by kernel_rfl)
def Qfb:LC:=⟨[.agg #[.int .i64 0,.int .i64 1]],[.agg #[.int .i64 333,.slice none 0 0,.int .i64 106,.slice none 0 0],.agg #[.int .i64 22,.slice none 0 0,.int .i64 7,.slice none 0 0]]⟩
theorem Zfb:Qp cx.bare lxN 3000 .leaf f58 (Qe f58) Qfb=some ():=by kernel_rfl
theorem Zlw:Qg cx.bare 58 Qfb:=Qg.Qk (Cx.Qm Ql) Zg (n:=3000) (an:=.leaf) (fn:=f58) (c:=Qe f58) (by kernel_rfl) (by kernel_rfl) Zfb (by kernel_rfl)
def Qn2:LC:=⟨[.agg #[.int .i64 0,.slice none 0 0,.int .i64 1,.slice none 0 0],.agg #[.int .i64 0,.slice none 0 0,.int .i64 1,.slice none 0 0]],[.agg #[.string (bs [48]),.string (bs [48])]]⟩
theorem Qxy:Qp cx.bare lxN 3000 .leaf f59 (Qe f59) Qn2=some ():=by kernel_rfl
theorem Zbc:Qg cx.bare 59 Qn2:=Qg.Qk (Cx.Qm Ql) Zg (n:=3000) (an:=.leaf) (fn:=f59) (c:=Qe f59) (by kernel_rfl) (by kernel_rfl) Qxy (by kernel_rfl)
def Qid:LC:=⟨[.agg #[.int .i64 26,.slice none 0 0,.int .i64 53,.slice none 0 0],.agg #[.int .i64 2,.slice none 0 0,.int .i64 1,.slice none 0 0]],[.agg #[.string (bs [50,54,47,53,51]),.string (bs [50])]]⟩
theorem Zcg:Qp cx.bare lxN 3000 .leaf f59 (Qe f59) Qid=some ():=by kernel_rfl
theorem Qxh:Qg cx.bare 59 Qid:=Qg.Qk (Cx.Qm Ql) Zg (n:=3000) (an:=.leaf) (fn:=f59) (c:=Qe f59) (by kernel_rfl) (by kernel_rfl) Zcg (by kernel_rfl)
def Qmc:LC:=⟨[.agg #[.int .i64 7,.slice none 0 0,.int .i64 53,.slice none 0 0],.agg #[.int .i64 23,.slice none 0 0,.int .i64 7,.slice none 0 0]],[.agg #[.string (bs [55,47,53,51]),.string (bs [50,51,47,55])]]⟩
theorem Qwb:Qp cx.bare lxN 3000 .leaf f59 (Qe f59) Qmc=some ():=by kernel_rfl
theorem Zli:Qg cx.bare 59 Qmc:=Qg.Qk (Cx.Qm Ql) Zg (n:=3000) (an:=.leaf) (fn:=f59) (c:=Qe f59) (by kernel_rfl) (by kernel_rfl) Qwb (by kernel_rfl)
def Qg6:LC:=⟨[.agg #[.int .i64 41,.slice none 0 0,.int .i64 53,.slice none 0 0],.agg #[.int .i64 39,.slice none 0 0,.int .i64 7,.slice none 0 0]],[.agg #[.string (bs [52,49,47,53,51]),.string (bs [51,57,47,55])]]⟩
theorem Qvy:Qp cx.bare lxN 3000 .leaf f59 (Qe f59) Qg6=some ():=by kernel_rfl
theorem Zc1:Qg cx.bare 59 Qg6:=Qg.Qk (Cx.Qm Ql) Zg (n:=3000) (an:=.leaf) (fn:=f59) (c:=Qe f59) (by kernel_rfl) (by kernel_rfl) Qvy (by kernel_rfl)
def Qlp:LC:=⟨[.agg #[.int .i64 22,.slice none 0 0,.int .i64 53,.slice none 0 0],.agg #[.int .i64 48,.slice none 0 0,.int .i64 7,.slice none 0 0]],[.agg #[.string (bs [50,50,47,53,51]),.string (bs [52,56,47,55])]]⟩
theorem Zja:Qp cx.bare lxN 3000 .leaf f59 (Qe f59) Qlp=some ():=by kernel_rfl
theorem Zjz:Qg cx.bare 59 Qlp:=Qg.Qk (Cx.Qm Ql) Zg (n:=3000) (an:=.leaf) (fn:=f59) (c:=Qe f59) (by kernel_rfl) (by kernel_rfl) Zja (by kernel_rfl)
def Qg2:LC:=⟨[.agg #[.int .i64 3,.slice none 0 0,.int .i64 53,.slice none 0 0],.agg #[.int .i64 57,.slice none 0 0,.int .i64 7,.slice none 0 0]],[.agg #[.string (bs [51,47,53,51]),.string (bs [53,55,47,55])]]⟩
theorem Zca:Qp cx.bare lxN 3000 .leaf f59 (Qe f59) Qg2=some ():=by kernel_rfl
theorem Zcy:Qg cx.bare 59 Qg2:=Qg.Qk (Cx.Qm Ql) Zg (n:=3000) (an:=.leaf) (fn:=f59) (c:=Qe f59) (by kernel_rfl) (by kernel_rfl) Zca (by kernel_rfl)
def Qm2:LC:=⟨[.agg #[.int .i64 37,.slice none 0 0,.int .i64 53,.slice none 0 0],.agg #[.int .i64 73,.slice none 0 0,.int .i64 7,.slice none 0 0]],[.agg #[.string (bs [51,55,47,53,51]),.string (bs [55,51,47,55])]]⟩
theorem Qza:Qp cx.bare lxN 3000 .leaf f59 (Qe f59) Qm2=some ():=by kernel_rfl
theorem Qw5:Qg cx.bare 59 Qm2:=Qg.Qk (Cx.Qm Ql) Zg (n:=3000) (an:=.leaf) (fn:=f59) (c:=Qe f59) (by kernel_rfl) (by kernel_rfl) Qza (by kernel_rfl)
def Qhz:LC:=⟨[.agg #[.int .i64 18,.slice none 0 0,.int .i64 53,.slice none 0 0],.agg #[.int .i64 82,.slice none 0 0,.int .i64 7,.slice none 0 0]],[.agg #[.string (bs [49,56,47,53,51]),.string (bs [56,50,47,55])]]⟩
theorem Qyo:Qp cx.bare lxN 3000 .leaf f59 (Qe f59) Qhz=some ():=by kernel_rfl
theorem Zh3:Qg cx.bare 59 Qhz:=Qg.Qk (Cx.Qm Ql) Zg (n:=3000) (an:=.leaf) (fn:=f59) (c:=Qe f59) (by kernel_rfl) (by kernel_rfl) Qyo (by kernel_rfl)
def Qjy:LC:=⟨[.agg #[.int .i64 20800,.slice none 0 0,.int .i64 53,.slice none 0 0],.agg #[.int .i64 2400,.slice none 0 0,.int .i64 7,.slice none 0 0]],[.agg #[.string (bs [50,52,48,48,47,55]),.string (bs [50,48,56,48,48,47,53,51])]]⟩
theorem Zbl:Qp cx.bare lxN 3000 .leaf f59 (Qe f59) Qjy=some ():=by kernel_rfl
theorem Zkg:Qg cx.bare 59 Qjy:=Qg.Qk (Cx.Qm Ql) Zg (n:=3000) (an:=.leaf) (fn:=f59) (c:=Qe f59) (by kernel_rfl) (by kernel_rfl) Zbl (by kernel_rfl)
def Qk7:LC:=⟨[.agg #[.int .i64 84390,.int .i64 36500,.int .i64 1220,.int .i64 300,.int .i64 200,.int .i64 8],.int .i64 36800,.int .i64 1],[.int .i64 0]⟩
theorem Zjq:Qp cx.bare lxN 3000 .leaf f57 (Qe f57) Qk7=some ():=by kernel_rfl
theorem Zl2:Qg cx.bare 57 Qk7:=Qg.Qk (Cx.Qm Ql) Zg (n:=3000) (an:=.leaf) (fn:=f57) (c:=Qe f57) (by kernel_rfl) (by kernel_rfl) Zjq (by kernel_rfl)
def Qmf:LC:=⟨[.agg #[.int .i64 84390,.int .i64 36500,.int .i64 1220,.int .i64 300,.int .i64 200,.int .i64 8],.int .i64 37920,.int .i64 1],[.int .i64 3518]⟩
theorem Zlm:Qp cx.bare lxN 3000 .leaf f57 (Qe f57) Qmf=some ():=by kernel_rfl
theorem Qx9:Qg cx.bare 57 Qmf:=Qg.Qk (Cx.Qm Ql) Zg (n:=3000) (an:=.leaf) (fn:=f57) (c:=Qe f57) (by kernel_rfl) (by kernel_rfl) Zlm (by kernel_rfl)
def Qhq:LC:=⟨[.agg #[.int .i64 84390,.int .i64 36500,.int .i64 1220,.int .i64 300,.int .i64 200,.int .i64 8],.int .i64 39140,.int .i64 1],[.int .i64 7351]⟩
theorem Zbx:Qp cx.bare lxN 3000 .leaf f57 (Qe f57) Qhq=some ():=by kernel_rfl
theorem Zms:Qg cx.bare 57 Qhq:=Qg.Qk (Cx.Qm Ql) Zg (n:=3000) (an:=.leaf) (fn:=f57) (c:=Qe f57) (by kernel_rfl) (by kernel_rfl) Zbx (by kernel_rfl)
def Qlj:LC:=⟨[.agg #[.int .i64 84390,.int .i64 36500,.int .i64 1220,.int .i64 300,.int .i64 200,.int .i64 8],.int .i64 40360,.int .i64 1],[.int .i64 11183]⟩
theorem Qyt:Qp cx.bare lxN 3000 .leaf f57 (Qe f57) Qlj=some ():=by kernel_rfl
theorem Zbo:Qg cx.bare 57 Qlj:=Qg.Qk (Cx.Qm Ql) Zg (n:=3000) (an:=.leaf) (fn:=f57) (c:=Qe f57) (by kernel_rfl) (by kernel_rfl) Qyt (by kernel_rfl)
def Qkp:LC:=⟨[.agg #[.int .i64 84390,.int .i64 36500,.int .i64 1220,.int .i64 300,.int .i64 200,.int .i64 8],.int .i64 41580,.int .i64 1],[.int .i64 15016]⟩
theorem Zlb:Qp cx.bare lxN 3000 .leaf f57 (Qe f57) Qkp=some ():=by kernel_rfl
theorem Qxe:Qg cx.bare 57 Qkp:=Qg.Qk (Cx.Qm Ql) Zg (n:=3000) (an:=.leaf) (fn:=f57) (c:=Qe f57) (by kernel_rfl) (by kernel_rfl) Zlb (by kernel_rfl)
def Qly:LC:=⟨[.agg #[.int .i64 84390,.int .i64 36500,.int .i64 1220,.int .i64 300,.int .i64 200,.int .i64 8],.int .i64 42800,.int .i64 1],[.int .i64 18849]⟩
theorem Zbv:Qp cx.bare lxN 3000 .leaf f57 (Qe f57) Qly=some ():=by kernel_rfl
theorem Qy3:Qg cx.bare 57 Qly:=Qg.Qk (Cx.Qm Ql) Zg (n:=3000) (an:=.leaf) (fn:=f57) (c:=Qe f57) (by kernel_rfl) (by kernel_rfl) Zbv (by kernel_rfl)
def Qg1:LC:=⟨[.agg #[.int .i64 84390,.int .i64 36500,.int .i64 1220,.int .i64 300,.int .i64 200,.int .i64 8],.int .i64 44020,.int .i64 1],[.int .i64 22681]⟩
theorem Zay:Qp cx.bare lxN 3000 .leaf f57 (Qe f57) Qg1=some ():=by kernel_rfl
theorem Qxq:Qg cx.bare 57 Qg1:=Qg.Qk (Cx.Qm Ql) Zg (n:=3000) (an:=.leaf) (fn:=f57) (c:=Qe f57) (by kernel_rfl) (by kernel_rfl) Zay (by kernel_rfl)
def Qkk:LC:=⟨[.agg #[.int .i64 84390,.int .i64 36500,.int .i64 1220,.int .i64 300,.int .i64 200,.int .i64 8],.int .i64 45240,.int .i64 1],[.int .i64 26514]⟩
theorem Zan:Qp cx.bare lxN 3000 .leaf f57 (Qe f57) Qkk=some ():=by kernel_rfl
theorem Zhl:Qg cx.bare 57 Qkk:=Qg.Qk (Cx.Qm Ql) Zg (n:=3000) (an:=.leaf) (fn:=f57) (c:=Qe f57) (by kernel_rfl) (by kernel_rfl) Zan (by kernel_rfl)
def Qnp:LC:=⟨[.agg #[.int .i64 84390,.int .i64 36500,.int .i64 1220,.int .i64 300,.int .i64 200,.int .i64 8],.int .i64 1,.int .i64 116000,.agg #[.int .i64 333,.slice none 0 0,.int .i64 106,.slice none 0 0]],[.int .i64 0,.int .i64 1,.agg #[.int .i64 20800,.slice none 0 0,.int .i64 53,.slice none 0 0]]⟩
theorem Zi5:Qp cx.bare lxN 3000 .leaf f62 (Qe f62) Qnp=some ():=by kernel_rfl
theorem Zdi:Qg cx.bare 62 Qnp:=Qg.Qk (Cx.Qm Ql) Zg (n:=3000) (an:=.leaf) (fn:=f62) (c:=Qe f62) (by kernel_rfl) (by kernel_rfl) Zi5 (by kernel_rfl)
def Qfv:LC:=⟨[.agg #[.int .i64 84390,.int .i64 36500,.int .i64 1220,.int .i64 300,.int .i64 200,.int .i64 8],.int .i64 1,.int .i64 116000,.agg #[.int .i64 22,.slice none 0 0,.int .i64 7,.slice none 0 0]],[.int .i64 0,.int .i64 1,.agg #[.int .i64 2400,.slice none 0 0,.int .i64 7,.slice none 0 0]]⟩
theorem Zmf:Qp cx.bare lxN 3000 .leaf f62 (Qe f62) Qfv=some ():=by kernel_rfl
theorem Zk0:Qg cx.bare 62 Qfv:=Qg.Qk (Cx.Qm Ql) Zg (n:=3000) (an:=.leaf) (fn:=f62) (c:=Qe f62) (by kernel_rfl) (by kernel_rfl) Zmf (by kernel_rfl)
def Qmy:LC:=⟨[.agg #[.int .i64 84390,.int .i64 36500,.int .i64 1220,.int .i64 300,.int .i64 200,.int .i64 8],.int .i64 1,.int .i64 115630,.agg #[.int .i64 333,.slice none 0 0,.int .i64 106,.slice none 0 0]],[.int .i64 0,.int .i64 1,.agg #[.int .i64 1190,.slice none 0 0,.int .i64 53,.slice none 0 0]]⟩
theorem Zka:Qp cx.bare lxN 3000 .leaf f62 (Qe f62) Qmy=some ():=by kernel_rfl
theorem Qz5:Qg cx.bare 62 Qmy:=Qg.Qk (Cx.Qm Ql) Zg (n:=3000) (an:=.leaf) (fn:=f62) (c:=Qe f62) (by kernel_rfl) (by kernel_rfl) Zka (by kernel_rfl)
def Qlk:LC:=⟨[.agg #[.int .i64 84390,.int .i64 36500,.int .i64 1220,.int .i64 300,.int .i64 200,.int .i64 8],.int .i64 1,.int .i64 115630,.agg #[.int .i64 22,.slice none 0 0,.int .i64 7,.slice none 0 0]],[.int .i64 0,.int .i64 0,.agg #[.int .i64 115630,.slice none 0 0,.int .i64 1,.slice none 0 0]]⟩
theorem Zjk:Qp cx.bare lxN 3000 .leaf f62 (Qe f62) Qlk=some ():=by kernel_rfl
theorem Qwk:Qg cx.bare 62 Qlk:=Qg.Qk (Cx.Qm Ql) Zg (n:=3000) (an:=.leaf) (fn:=f62) (c:=Qe f62) (by kernel_rfl) (by kernel_rfl) Zjk (by kernel_rfl)
def Qo6:List LC:=[Qna,Qi4,Qm3,Qgf,Qm9,Qkt,Qjj,Qn7,Qni,Qgj,Qj3,Qh7,Qgr,Ql4,Qj6,Qfb]
theorem Zlq:Yn cx.bare 58 (Zt Qo6):=Je ⟨f58,by kernel_rfl⟩ (Qq Zc3 (Qq Qz1 (Qq Zk5 (Qq Zeu (Qq Qx8 (Qq Zb6 (Qq Ziu (Qq Zju (Qq Zaf (Qq Zdd (Qq Zha (Qq Zgz (Qq Zat (Qq Zbs (Qq Zhe (Qq Zlw (Jk)))))))))))))))))
def Qos:List LC:=[Qn2,Qid,Qmc,Qg6,Qlp,Qg2,Qm2,Qhz,Qjy]
theorem Za0:Yn cx.bare 59 (Zt Qos):=Je ⟨f59,by kernel_rfl⟩ (Qq Zbc (Qq Qxh (Qq Zli (Qq Zc1 (Qq Zjz (Qq Zcy (Qq Qw5 (Qq Zh3 (Qq Zkg (Jk))))))))))
def Qqi:List LC:=[Qk7,Qmf,Qhq,Qlj,Qkp,Qly,Qg1,Qkk]
theorem Zj1:Yn cx.bare 57 (Zt Qqi):=Je ⟨f57,by kernel_rfl⟩ (Qq Zl2 (Qq Qx9 (Qq Zms (Qq Zbo (Qq Qxe (Qq Qy3 (Qq Qxq (Qq Zhl (Jk)))))))))
def Qo8:List LC:=[Qnp,Qfv,Qmy,Qlk]
theorem Qyp:Yn cx.bare 62 (Zt Qo8):=Je ⟨f62,by kernel_rfl⟩ (Qq Zdi (Qq Zk0 (Qq Qz5 (Qq Qwk (Jk)))))
noncomputable def lxP:Lx:={ext:=[(121,(Qal 400).sm),(79,Zt Qlh),(78,Zt Qmz),(83,Zt Qkc),(75,Zt Qg4),(84,Zt Qgc),(86,Zt Qfq),(87,Zt Qm0),(58,Zt Qo6),(59,Zt Qos),(57,Zt Qqi),(62,Zt Qo8)],anns:=[],still:=[]}
theorem Qj8:lxP.Ok cx.bare:=Lx.Za (PC.Zn (Qeo 400).bare) (Lx.Za (Quf) (Lx.Za (Qtj) (Lx.Za (Qoh) (Lx.Za (Qo7) (Lx.Za (Qs6) (Lx.Za (Qor) (Lx.Za (Qpu) (Lx.Za (Zlq) (Lx.Za (Za0) (Lx.Za (Zj1) (Lx.Za (Qyp) (Lx.Y4))))))))))))
def Qop:(Int×Int×Int×Int×Int×Int)×Int:=((84390,36500,1220,300,200,8),1)
def Qqy:List (ByteArray×ByteArray)×Int:=([(bs [48],bs [48]),(bs [50,54,47,53,51],bs [50]),(bs [55,47,53,51],bs [50,51,47,55]),(bs [52,49,47,53,51],bs [51,57,47,55]),(bs [50,50,47,53,51],bs [52,56,47,55]),(bs [51,47,53,51],bs [53,55,47,55]),(bs [51,55,47,53,51],bs [55,51,47,55]),(bs [49,56,47,53,51],bs [56,50,47,55])],0)
abbrev Qk6:List Qi:=[.agg [.int .i64,.int .i64,.int .i64,.int .i64,.int .i64,.int .i64],.val (.int .i64)]
abbrev Qmv:List Qi:=[.val (.seq [.str,.str]),.val (.int .i64)]
theorem Zgb:Zx cx.bare lxP 3000 .leaf f33 (Qe f33) Qk6 Qmv Qop=some Qqy:=by kernel_rfl
noncomputable def Qox:PC:={ats:=Qk6,rts:=Qmv,code:=Go.Sx.one (ats:=Qk6) (rts:=Qmv) Qop Qqy}
theorem Qyx:Qz cx.bare 33 Qox:=Qz.Qk (Cx.Qm Ql) Qj8 (n:=3000) (an:=.leaf) (fn:=f33) (c:=Qe f33) (by kernel_rfl) (by kernel_rfl) (fun a y h=>by obtain⟨h1,h2⟩:=Go.Sx.one_some h;subst h1;subst h2;exact Zgb) (by kernel_rfl)
def Qrq:(Int×Int×Int×Int×Int×Int)×Int:=((4,1,2,0,0,2),2)
def Qsf:(ByteArray×ByteArray)×Int:=((bs [48],bs [49]),0)
abbrev Qj7:List Qi:=[.agg [.int .i64,.int .i64,.int .i64,.int .i64,.int .i64,.int .i64],.val (.int .i64)]
abbrev Qjg:List Qi:=[.agg [.str,.str],.val (.int .i64)]
theorem Zh8:Zx cx.bare Qs 3000 .leaf f34 (Qe f34) Qj7 Qjg Qrq=some Qsf:=by kernel_rfl
noncomputable def Qup:PC:={ats:=Qj7,rts:=Qjg,code:=Go.Sx.one (ats:=Qj7) (rts:=Qjg) Qrq Qsf}
theorem Zcc:Qz cx.bare 34 Qup:=Qz.Qk (Cx.Qm Ql) Qt (n:=3000) (an:=.leaf) (fn:=f34) (c:=Qe f34) (by kernel_rfl) (by kernel_rfl) (fun a y h=>by obtain⟨h1,h2⟩:=Go.Sx.one_some h;subst h1;subst h2;exact Zh8) (by kernel_rfl)
def Qo1:(Int×Int×Int×Int×Int×Int)×Int×Int:=((84390,36500,1220,300,200,8),1,116000)
def Qsd:(Int×Int×ByteArray×ByteArray)×Int:=((0,1,bs [50,52,48,48,47,55],bs [50,48,56,48,48,47,53,51]),0)
abbrev Qki:List Qi:=[.agg [.int .i64,.int .i64,.int .i64,.int .i64,.int .i64,.int .i64],.val (.int .i64),.val (.int .i64)]
abbrev Qe5:List Qi:=[.agg [.int .i64,.int .i64,.str,.str],.val (.int .i64)]
theorem Zcl:Zx cx.bare lxP 3000 .leaf f35 (Qe f35) Qki Qe5 Qo1=some Qsd:=by kernel_rfl
noncomputable def Qi2:PC:={ats:=Qki,rts:=Qe5,code:=Go.Sx.one (ats:=Qki) (rts:=Qe5) Qo1 Qsd}
theorem Zeo:Qz cx.bare 35 Qi2:=Qz.Qk (Cx.Qm Ql) Qj8 (n:=3000) (an:=.leaf) (fn:=f35) (c:=Qe f35) (by kernel_rfl) (by kernel_rfl) (fun a y h=>by obtain⟨h1,h2⟩:=Go.Sx.one_some h;subst h1;subst h2;exact Zcl) (by kernel_rfl)
def Qcy:(Int×Int×Int×Int×Int×Int)×Int×Int:=((84390,36500,1220,300,200,8),1,115630)
def Qda:(Int×Int×ByteArray×ByteArray)×Int:=((0,0,bs [],bs []),24)
abbrev Qn4:List Qi:=[.agg [.int .i64,.int .i64,.int .i64,.int .i64,.int .i64,.int .i64],.val (.int .i64),.val (.int .i64)]
abbrev Qnm:List Qi:=[.agg [.int .i64,.int .i64,.str,.str],.val (.int .i64)]
theorem Qw6:Zx cx.bare lxP 3000 .leaf f35 (Qe f35) Qn4 Qnm Qcy=some Qda:=by kernel_rfl
noncomputable def Zho:PC:={ats:=Qn4,rts:=Qnm,code:=Go.Sx.one (ats:=Qn4) (rts:=Qnm) Qcy Qda}
theorem Ze8:Qz cx.bare 35 Zho:=Qz.Qk (Cx.Qm Ql) Qj8 (n:=3000) (an:=.leaf) (fn:=f35) (c:=Qe f35) (by kernel_rfl) (by kernel_rfl) (fun a y h=>by obtain⟨h1,h2⟩:=Go.Sx.one_some h;subst h1;subst h2;exact Qw6) (by kernel_rfl)
def Qpw:(Int×Int×Int×Int)×Int:=((13000,8500,10500,10),100000)
def Qtp:List Int×Int:=([13000,21500,30000,38500,47000,55500,64000,72500,81000,89500],0)
abbrev Qml:List Qi:=[.agg [.int .i64,.int .i64,.int .i64,.int .i64],.val (.int .i64)]
abbrev Qjr:List Qi:=[.val (.seq [.int .i64]),.val (.int .i64)]
theorem Zeh:Zx cx.bare Qs 3000 .leaf f7 (Qe f7) Qml Qjr Qpw=some Qtp:=by kernel_rfl
noncomputable def Qp7:PC:={ats:=Qml,rts:=Qjr,code:=Go.Sx.one (ats:=Qml) (rts:=Qjr) Qpw Qtp}
theorem Zg2:Qz cx.bare 7 Qp7:=Qz.Qk (Cx.Qm Ql) Qt (n:=3000) (an:=.leaf) (fn:=f7) (c:=Qe f7) (by kernel_rfl) (by kernel_rfl) (fun a y h=>by obtain⟨h1,h2⟩:=Go.Sx.one_some h;subst h1;subst h2;exact Zeh) (by kernel_rfl)
def Quq:List Int×Int×Int:=([100000,100000,100000,100000],30000,20000)
def Qse:List (Int×Int)×Int:=([(80000,110000),(180000,210000),(280000,310000)],0)
abbrev Qgt:List Qi:=[.agg [.seq [.int .i64],.int .i64,.int .i64]]
abbrev Qm1:List Qi:=[.val (.seq [.int .i64,.int .i64]),.val (.int .i64)]
theorem Zf4:Zx cx.bare Qs 3000 .leaf f36 (Qe f36) Qgt Qm1 Quq=some Qse:=by kernel_rfl
noncomputable def Qu4:PC:={ats:=Qgt,rts:=Qm1,code:=Go.Sx.one (ats:=Qgt) (rts:=Qm1) Quq Qse}
theorem Zdg:Qz cx.bare 36 Qu4:=Qz.Qk (Cx.Qm Ql) Qt (n:=3000) (an:=.leaf) (fn:=f36) (c:=Qe f36) (by kernel_rfl) (by kernel_rfl) (fun a y h=>by obtain⟨h1,h2⟩:=Go.Sx.one_some h;subst h1;subst h2;exact Zf4) (by kernel_rfl)
noncomputable def Qst(F:Nat):Lx:={ext:=[],anns:=[],still:=[]}
noncomputable def c88(F:Nat)(a:List (Int×Int)):Option (List (Int×Int)):=
 bif Decidable.decide (List.length a=(0:Nat))then(Option.bind (gd (Decidable.decide (List.length (Go.Sx.nilT (Int×Int)++a)*(16:Nat)≤(140737488355328:Nat))) (gd (Decidable.decide (List.length (Go.Sx.nilT (Int×Int)++a)≤(9223372036854775807:Nat))) (gd (Decidable.decide (List.length (Go.Sx.nilT (Int×Int)++a)=List.length (Go.Sx.nilT (Int×Int)++a))) (some (Go.Sx.nilT (Int×Int)++a))))) fun(v4:List (Int×Int))=>gd (Go.Sx.listEq (Go.Sx.Els.eqv (Go.Sx.Ty.int Go.IntKind.i64::Go.Sx.Ty.int Go.IntKind.i64::Go.Sx.nilT Go.Sx.Ty)) (Go.Sx.nilT (Int×Int)) v4) (some (Go.Sx.nilT (Int×Int))))else(gd (Decidable.decide (List.length (Go.Sx.nilT (Int×Int)++a)*(16:Nat)≤(140737488355328:Nat))) (gd (Decidable.decide (List.length (Go.Sx.nilT (Int×Int)++a)≤(9223372036854775807:Nat))) (gd (Decidable.decide (List.length (Go.Sx.nilT (Int×Int)++a)=List.length (Go.Sx.nilT (Int×Int)++a))) (some (Go.Sx.nilT (Int×Int)++a)))))
noncomputable def Qqc(F:Nat):PF:={ats:=[.val (.seq [.int .i64,.int .i64])],ty:=91,row:=[.int .i64,.int .i64],code:=c88 F}
theorem Zjy(F:Nat):(Qst F).Ok cx:=Lx.Y4
theorem Qxd(F:Nat)(a:List (Int×Int)):codeF cx (Qst F) 1000 .leaf f88 (Qe f88) [.val (.seq [.int .i64,.int .i64])] 91 [.int .i64,.int .i64] a=c88 F a:=by kernel_rfl
theorem Qy2(F:Nat):Vn cx 88 (Qqc F):=Vn.Qk Ql (Zjy F) (n:=1000) (an:=.leaf) (fn:=f88) (c:=Qe f88) (by kernel_rfl) (by kernel_rfl) (fun a y h=>(Qxd F a).trans h) (by kernel_rfl)
noncomputable def lx1:Lx:={ext:=[(121,(Qal 400).sm),(88,(Qqc 400).sm)],anns:=[],still:=[]}
theorem Qo5:lx1.Ok cx.bare:=Lx.Za (PC.Zn (Qeo 400).bare) (Lx.Za (PF.Zn (Qy2 400).bare) Lx.Y4)
def Qoq:(List Int×Int×Int)×List (Int×Int)×Int:=(([100000,100000,100000,100000],30000,20000),[(95000,110000),(200000,210000),(310000,320000)],420000)
def Qs7:List Int×Int:=([110000,100000,110000,100000],0)
abbrev Qg5:List Qi:=[.agg [.seq [.int .i64],.int .i64,.int .i64],.val (.seq [.int .i64,.int .i64]),.val (.int .i64)]
abbrev Qnj:List Qi:=[.val (.seq [.int .i64]),.val (.int .i64)]
theorem Qw8:Zx cx.bare lx1 3000 .leaf f38 (Qe f38) Qg5 Qnj Qoq=some Qs7:=by kernel_rfl
noncomputable def Quy:PC:={ats:=Qg5,rts:=Qnj,code:=Go.Sx.one (ats:=Qg5) (rts:=Qnj) Qoq Qs7}
theorem Zfq:Qz cx.bare 38 Quy:=Qz.Qk (Cx.Qm Ql) Qo5 (n:=3000) (an:=.leaf) (fn:=f38) (c:=Qe f38) (by kernel_rfl) (by kernel_rfl) (fun a y h=>by obtain⟨h1,h2⟩:=Go.Sx.one_some h;subst h1;subst h2;exact Qw8) (by kernel_rfl)
def Qug:(List Int×Int×Int)×List (Int×Int)×Int:=(([100000,100000,100000,100000],30000,20000),[(95000,110000),(200000,210000),(310000,320000)],420000)
def Qs9:List ByteArray×Int:=([bs [49,57,47,50,50],bs [50,49,47,50,48],bs [49],bs [57,47,49,48]],0)
abbrev Qmo:List Qi:=[.agg [.seq [.int .i64],.int .i64,.int .i64],.val (.seq [.int .i64,.int .i64]),.val (.int .i64)]
abbrev Qk4:List Qi:=[.val (.seq [.str]),.val (.int .i64)]
theorem Qx0:Zx cx.bare lx1 3000 .leaf f40 (Qe f40) Qmo Qk4 Qug=some Qs9:=by kernel_rfl
noncomputable def Qsk:PC:={ats:=Qmo,rts:=Qk4,code:=Go.Sx.one (ats:=Qmo) (rts:=Qk4) Qug Qs9}
theorem Qxm:Qz cx.bare 40 Qsk:=Qz.Qk (Cx.Qm Ql) Qo5 (n:=3000) (an:=.leaf) (fn:=f40) (c:=Qe f40) (by kernel_rfl) (by kernel_rfl) (fun a y h=>by obtain⟨h1,h2⟩:=Go.Sx.one_some h;subst h1;subst h2;exact Qx0) (by kernel_rfl)
def Qtx:(List Int×Int×Int)×List (Int×Int)×Int:=(([100000,100000,100000,100000],30000,20000),[(95000,110000),(210001,210000),(310000,320000)],420000)
def Qt0:Int×Int:=(1,18)
abbrev Qlw:List Qi:=[.agg [.seq [.int .i64],.int .i64,.int .i64],.val (.seq [.int .i64,.int .i64]),.val (.int .i64)]
abbrev Qfl:List Qi:=[.val (.int .i64),.val (.int .i64)]
theorem Zjr:Zx cx.bare Qs 3000 .leaf f41 (Qe f41) Qlw Qfl Qtx=some Qt0:=by kernel_rfl
noncomputable def Qsz:PC:={ats:=Qlw,rts:=Qfl,code:=Go.Sx.one (ats:=Qlw) (rts:=Qfl) Qtx Qt0}
theorem Zdp:Qz cx.bare 41 Qsz:=Qz.Qk (Cx.Qm Ql) Qt (n:=3000) (an:=.leaf) (fn:=f41) (c:=Qe f41) (by kernel_rfl) (by kernel_rfl) (fun a y h=>by obtain⟨h1,h2⟩:=Go.Sx.one_some h;subst h1;subst h2;exact Zjr) (by kernel_rfl)
def Qq4:(List Int×Int×Int)×List (List ByteArray)×List ByteArray:=(([100000,100000,100000,100000],30000,20000),[[bs [97],bs [98],bs [99],bs [100]],[bs [98],bs [97],bs [101],bs [102]],[bs [97],bs [98],bs [103],bs [100]]],[bs [101],bs [102],bs [103]])
def Qo4:Int×Int:=(2,18)
abbrev Qko:List Qi:=[.agg [.seq [.int .i64],.int .i64,.int .i64],.val (.seq [.seq [.str]]),.val (.seq [.str])]
abbrev Qj1:List Qi:=[.val (.int .i64),.val (.int .i64)]
theorem Qyh:Zx cx.bare Qs 3000 .leaf f18 (Qe f18) Qko Qj1 Qq4=some Qo4:=by kernel_rfl
noncomputable def Qp6:PC:={ats:=Qko,rts:=Qj1,code:=Go.Sx.one (ats:=Qko) (rts:=Qj1) Qq4 Qo4}
theorem Zd8:Qz cx.bare 18 Qp6:=Qz.Qk (Cx.Qm Ql) Qt (n:=3000) (an:=.leaf) (fn:=f18) (c:=Qe f18) (by kernel_rfl) (by kernel_rfl) (fun a y h=>by obtain⟨h1,h2⟩:=Go.Sx.one_some h;subst h1;subst h2;exact Qyh) (by kernel_rfl)
noncomputable def lxB:Lx:={ext:=[(28,Quu.sm),(30,Qqe.sm),(31,Qtd.sm),(32,Qt4.sm),(33,Qox.sm),(34,Qup.sm),(35,(Qi2.at Qcy Qda).sm),(7,Qp7.sm),(36,Qu4.sm),(38,Quy.sm),(40,Qsk.sm),(41,Qsz.sm),(18,Qp6.sm),(10,(Qmm 400).sm)],anns:=[(2000038,.leaf),(2000040,.leaf),(2000041,.leaf),(2000018,.leaf),(2000036,.leaf)],still:=[]}
theorem Zer:lxB.Ok cx.bare:=Lx.Za (PC.Zn Zmp) (Lx.Za (PC.Zn Zf3) (Lx.Za (PC.Zn Zcd) (Lx.Za (PC.Zn Zd6) (Lx.Za (PC.Zn Qyx) (Lx.Za (PC.Zn Zcc) (Lx.Za (PC.Zn (Qz.at2 (pc:=Qi2) Zeo (a0:=Qcy) (y0:=Qda) Ze8)) (Lx.Za (PC.Zn Zg2) (Lx.Za (PC.Zn Zdg) (Lx.Za (PC.Zn Zfq) (Lx.Za (PC.Zn Qxm) (Lx.Za (PC.Zn Zdp) (Lx.Za (PC.Zn Zd8) (Lx.Za (PC.Zn (Qtm 400).bare) (Lx.Y4))))))))))))))
noncomputable def c11(F:Nat)(a:Unit):Option Bool:=some true
noncomputable def Qp8(F:Nat):PC:={ats:=[],rts:=[.val .bool],code:=c11 F}
theorem Qyr:Zx cx.bare lxB 3000 .leaf f11 (Qe f11) [] [.val .bool] ()=some true:=by kernel_rfl
theorem Zab(F:Nat):Qz cx 11 (Qp8 F):=Qz.full (Qz.Qk (Cx.Qm Ql) Zer (n:=3000) (an:=.leaf) (fn:=f11) (c:=Qe f11) (by kernel_rfl) (by kernel_rfl) (fun a y h=>Qyr.trans h) (by kernel_rfl))
end Go.Proofs.Tryz
