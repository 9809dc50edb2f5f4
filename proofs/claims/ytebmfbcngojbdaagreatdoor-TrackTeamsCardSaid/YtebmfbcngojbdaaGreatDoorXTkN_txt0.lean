/- closed runs of (stadion/num.Frac).Text closed runs of (stadion/num.Frac).Text And further parts. -/
import Derived.Test.YtebmfbcngojbdaaGreatDoorXT7a
import Derived.Test.YtebmfbcngojbdaaGreatDoorXSxLt
import Derived.Test.YtebmfbcngojbdaaGreatDoorXTkN_add0
set_option maxRecDepth 1000000
set_option linter.unusedVariables false
namespace Go.Proofs.Tryz
open Go Go.Sx
def Qjp:LC:=⟨[.agg #[.int .i64 0,.slice none 0 0,.int .i64 1,.slice none 0 0]],[.string (bs [48])]⟩
theorem Zto:Qp cx.bare Qs 3000 .leaf f84 (Qd f84) Qjp=some ():=by kernel_rfl
theorem Zgq:Qg cx.bare 84 Qjp:=Qg.Qi (Cx.Qm Qj) Qt (n:=3000) (an:=.leaf) (fn:=f84) (c:=Qd f84) (by kernel_rfl) (by kernel_rfl) Zto (by kernel_rfl)
def Qpe:LC:=⟨[.agg #[.int .i64 26,.slice none 0 0,.int .i64 53,.slice none 0 0]],[.string (bs [50,54,47,53,51])]⟩
theorem Ziz:Qp cx.bare Qs 3000 .leaf f84 (Qd f84) Qpe=some ():=by kernel_rfl
theorem Zbj:Qg cx.bare 84 Qpe:=Qg.Qi (Cx.Qm Qj) Qt (n:=3000) (an:=.leaf) (fn:=f84) (c:=Qd f84) (by kernel_rfl) (by kernel_rfl) Ziz (by kernel_rfl)
def Qoi:LC:=⟨[.agg #[.int .i64 2,.slice none 0 0,.int .i64 1,.slice none 0 0]],[.string (bs [50])]⟩
theorem Zk6:Qp cx.bare Qs 3000 .leaf f84 (Qd f84) Qoi=some ():=by kernel_rfl
theorem Zgx:Qg cx.bare 84 Qoi:=Qg.Qi (Cx.Qm Qj) Qt (n:=3000) (an:=.leaf) (fn:=f84) (c:=Qd f84) (by kernel_rfl) (by kernel_rfl) Zk6 (by kernel_rfl)
def Qmb:LC:=⟨[.agg #[.int .i64 7,.slice none 0 0,.int .i64 53,.slice none 0 0]],[.string (bs [55,47,53,51])]⟩
theorem Zjr:Qp cx.bare Qs 3000 .leaf f84 (Qd f84) Qmb=some ():=by kernel_rfl
theorem Ze8:Qg cx.bare 84 Qmb:=Qg.Qi (Cx.Qm Qj) Qt (n:=3000) (an:=.leaf) (fn:=f84) (c:=Qd f84) (by kernel_rfl) (by kernel_rfl) Zjr (by kernel_rfl)
def Qpp:LC:=⟨[.agg #[.int .i64 23,.slice none 0 0,.int .i64 7,.slice none 0 0]],[.string (bs [50,51,47,55])]⟩
theorem Zei:Qp cx.bare Qs 3000 .leaf f84 (Qd f84) Qpp=some ():=by kernel_rfl
theorem Zgp:Qg cx.bare 84 Qpp:=Qg.Qi (Cx.Qm Qj) Qt (n:=3000) (an:=.leaf) (fn:=f84) (c:=Qd f84) (by kernel_rfl) (by kernel_rfl) Zei (by kernel_rfl)
def Qn9:LC:=⟨[.agg #[.int .i64 41,.slice none 0 0,.int .i64 53,.slice none 0 0]],[.string (bs [52,49,47,53,51])]⟩
theorem Zox:Qp cx.bare Qs 3000 .leaf f84 (Qd f84) Qn9=some ():=by kernel_rfl
theorem Zq3:Qg cx.bare 84 Qn9:=Qg.Qi (Cx.Qm Qj) Qt (n:=3000) (an:=.leaf) (fn:=f84) (c:=Qd f84) (by kernel_rfl) (by kernel_rfl) Zox (by kernel_rfl)
def Qjq:LC:=⟨[.agg #[.int .i64 39,.slice none 0 0,.int .i64 7,.slice none 0 0]],[.string (bs [51,57,47,55])]⟩
theorem Zil:Qp cx.bare Qs 3000 .leaf f84 (Qd f84) Qjq=some ():=by kernel_rfl
theorem Zk0:Qg cx.bare 84 Qjq:=Qg.Qi (Cx.Qm Qj) Qt (n:=3000) (an:=.leaf) (fn:=f84) (c:=Qd f84) (by kernel_rfl) (by kernel_rfl) Zil (by kernel_rfl)
def Qih:LC:=⟨[.agg #[.int .i64 22,.slice none 0 0,.int .i64 53,.slice none 0 0]],[.string (bs [50,50,47,53,51])]⟩
theorem Zh8:Qp cx.bare Qs 3000 .leaf f84 (Qd f84) Qih=some ():=by kernel_rfl
theorem Zdy:Qg cx.bare 84 Qih:=Qg.Qi (Cx.Qm Qj) Qt (n:=3000) (an:=.leaf) (fn:=f84) (c:=Qd f84) (by kernel_rfl) (by kernel_rfl) Zh8 (by kernel_rfl)
def Qm8:LC:=⟨[.agg #[.int .i64 48,.slice none 0 0,.int .i64 7,.slice none 0 0]],[.string (bs [52,56,47,55])]⟩
theorem Zm6:Qp cx.bare Qs 3000 .leaf f84 (Qd f84) Qm8=some ():=by kernel_rfl
theorem Zs2:Qg cx.bare 84 Qm8:=Qg.Qi (Cx.Qm Qj) Qt (n:=3000) (an:=.leaf) (fn:=f84) (c:=Qd f84) (by kernel_rfl) (by kernel_rfl) Zm6 (by kernel_rfl)
def Qm5:LC:=⟨[.agg #[.int .i64 3,.slice none 0 0,.int .i64 53,.slice none 0 0]],[.string (bs [51,47,53,51])]⟩
theorem Zkg:Qp cx.bare Qs 3000 .leaf f84 (Qd f84) Qm5=some ():=by kernel_rfl
theorem Znz:Qg cx.bare 84 Qm5:=Qg.Qi (Cx.Qm Qj) Qt (n:=3000) (an:=.leaf) (fn:=f84) (c:=Qd f84) (by kernel_rfl) (by kernel_rfl) Zkg (by kernel_rfl)
def Qot:LC:=⟨[.agg #[.int .i64 57,.slice none 0 0,.int .i64 7,.slice none 0 0]],[.string (bs [53,55,47,55])]⟩
theorem Zra:Qp cx.bare Qs 3000 .leaf f84 (Qd f84) Qot=some ():=by kernel_rfl
theorem Zka:Qg cx.bare 84 Qot:=Qg.Qi (Cx.Qm Qj) Qt (n:=3000) (an:=.leaf) (fn:=f84) (c:=Qd f84) (by kernel_rfl) (by kernel_rfl) Zra (by kernel_rfl)
def Qi5:LC:=⟨[.agg #[.int .i64 37,.slice none 0 0,.int .i64 53,.slice none 0 0]],[.string (bs [51,55,47,53,51])]⟩
theorem Zfj:Qp cx.bare Qs 3000 .leaf f84 (Qd f84) Qi5=some ():=by kernel_rfl
theorem Zci:Qg cx.bare 84 Qi5:=Qg.Qi (Cx.Qm Qj) Qt (n:=3000) (an:=.leaf) (fn:=f84) (c:=Qd f84) (by kernel_rfl) (by kernel_rfl) Zfj (by kernel_rfl)
def Qgl:LC:=⟨[.agg #[.int .i64 73,.slice none 0 0,.int .i64 7,.slice none 0 0]],[.string (bs [55,51,47,55])]⟩
theorem Zlm:Qp cx.bare Qs 3000 .leaf f84 (Qd f84) Qgl=some ():=by kernel_rfl
theorem Zmn:Qg cx.bare 84 Qgl:=Qg.Qi (Cx.Qm Qj) Qt (n:=3000) (an:=.leaf) (fn:=f84) (c:=Qd f84) (by kernel_rfl) (by kernel_rfl) Zlm (by kernel_rfl)
def Qhc:LC:=⟨[.agg #[.int .i64 18,.slice none 0 0,.int .i64 53,.slice none 0 0]],[.string (bs [49,56,47,53,51])]⟩
theorem Zlc:Qp cx.bare Qs 3000 .leaf f84 (Qd f84) Qhc=some ():=by kernel_rfl
theorem Zky:Qg cx.bare 84 Qhc:=Qg.Qi (Cx.Qm Qj) Qt (n:=3000) (an:=.leaf) (fn:=f84) (c:=Qd f84) (by kernel_rfl) (by kernel_rfl) Zlc (by kernel_rfl)
def Qof:LC:=⟨[.agg #[.int .i64 82,.slice none 0 0,.int .i64 7,.slice none 0 0]],[.string (bs [56,50,47,55])]⟩
theorem Zg8:Qp cx.bare Qs 3000 .leaf f84 (Qd f84) Qof=some ():=by kernel_rfl
theorem Ze7:Qg cx.bare 84 Qof:=Qg.Qi (Cx.Qm Qj) Qt (n:=3000) (an:=.leaf) (fn:=f84) (c:=Qd f84) (by kernel_rfl) (by kernel_rfl) Zg8 (by kernel_rfl)
def Qmo:LC:=⟨[.agg #[.int .i64 2400,.slice none 0 0,.int .i64 7,.slice none 0 0]],[.string (bs [50,52,48,48,47,55])]⟩
theorem Zjm:Qp cx.bare Qs 3000 .leaf f84 (Qd f84) Qmo=some ():=by kernel_rfl
theorem Zoa:Qg cx.bare 84 Qmo:=Qg.Qi (Cx.Qm Qj) Qt (n:=3000) (an:=.leaf) (fn:=f84) (c:=Qd f84) (by kernel_rfl) (by kernel_rfl) Zjm (by kernel_rfl)
def Qil:LC:=⟨[.agg #[.int .i64 20800,.slice none 0 0,.int .i64 53,.slice none 0 0]],[.string (bs [50,48,56,48,48,47,53,51])]⟩
theorem Zr6:Qp cx.bare Qs 3000 .leaf f84 (Qd f84) Qil=some ():=by kernel_rfl
theorem Zmv:Qg cx.bare 84 Qil:=Qg.Qi (Cx.Qm Qj) Qt (n:=3000) (an:=.leaf) (fn:=f84) (c:=Qd f84) (by kernel_rfl) (by kernel_rfl) Zr6 (by kernel_rfl)
def Qi7:LC:=⟨[.agg #[.int .i64 116000,.slice none 0 0,.int .i64 1,.slice none 0 0],.agg #[.int .i64 21199740,.slice none 0 0,.int .i64 53,.slice none 0 0]],[.agg #[.int .i64 307400,.slice none 0 0,.int .i64 1059987,.slice none 0 0]]⟩
theorem Zd7:Qp cx.bare Qs 3000 .leaf f86 (Qd f86) Qi7=some ():=by kernel_rfl
theorem Zfx:Qg cx.bare 86 Qi7:=Qg.Qi (Cx.Qm Qj) Qt (n:=3000) (an:=.leaf) (fn:=f86) (c:=Qd f86) (by kernel_rfl) (by kernel_rfl) Zd7 (by kernel_rfl)
def Qpo:LC:=⟨[.agg #[.int .i64 116000,.slice none 0 0,.int .i64 1,.slice none 0 0],.agg #[.int .i64 2800660,.slice none 0 0,.int .i64 7,.slice none 0 0]],[.agg #[.int .i64 40600,.slice none 0 0,.int .i64 140033,.slice none 0 0]]⟩
theorem Zk1:Qp cx.bare Qs 3000 .leaf f86 (Qd f86) Qpo=some ():=by kernel_rfl
theorem Zqb:Qg cx.bare 86 Qpo:=Qg.Qi (Cx.Qm Qj) Qt (n:=3000) (an:=.leaf) (fn:=f86) (c:=Qd f86) (by kernel_rfl) (by kernel_rfl) Zk1 (by kernel_rfl)
def Qi3:LC:=⟨[.agg #[.int .i64 115630,.slice none 0 0,.int .i64 1,.slice none 0 0],.agg #[.int .i64 21199740,.slice none 0 0,.int .i64 53,.slice none 0 0]],[.agg #[.int .i64 612839,.slice none 0 0,.int .i64 2119974,.slice none 0 0]]⟩
theorem Zjc:Qp cx.bare Qs 3000 .leaf f86 (Qd f86) Qi3=some ():=by kernel_rfl
theorem Zdp:Qg cx.bare 86 Qi3:=Qg.Qi (Cx.Qm Qj) Qt (n:=3000) (an:=.leaf) (fn:=f86) (c:=Qd f86) (by kernel_rfl) (by kernel_rfl) Zjc (by kernel_rfl)
def Qg7:LC:=⟨[.agg #[.int .i64 115630,.slice none 0 0,.int .i64 1,.slice none 0 0],.agg #[.int .i64 2800660,.slice none 0 0,.int .i64 7,.slice none 0 0]],[.agg #[.int .i64 80941,.slice none 0 0,.int .i64 280066,.slice none 0 0]]⟩
theorem Zqr:Qp cx.bare Qs 3000 .leaf f86 (Qd f86) Qg7=some ():=by kernel_rfl
theorem Zj5:Qg cx.bare 86 Qg7:=Qg.Qi (Cx.Qm Qj) Qt (n:=3000) (an:=.leaf) (fn:=f86) (c:=Qd f86) (by kernel_rfl) (by kernel_rfl) Zqr (by kernel_rfl)
def Qid:LC:=⟨[.agg #[.int .i64 116000,.slice none 0 0,.int .i64 1,.slice none 0 0],.agg #[.int .i64 0,.slice none 0 0,.int .i64 1,.slice none 0 0]],[.agg #[.int .i64 116000,.slice none 0 0,.int .i64 1,.slice none 0 0]]⟩
theorem Zmp:Qp cx.bare Qs 3000 .leaf f87 (Qd f87) Qid=some ():=by kernel_rfl
theorem Zrk:Qg cx.bare 87 Qid:=Qg.Qi (Cx.Qm Qj) Qt (n:=3000) (an:=.leaf) (fn:=f87) (c:=Qd f87) (by kernel_rfl) (by kernel_rfl) Zmp (by kernel_rfl)
def Qhb:LC:=⟨[.agg #[.int .i64 116000,.slice none 0 0,.int .i64 1,.slice none 0 0],.agg #[.int .i64 6127200,.slice none 0 0,.int .i64 53,.slice none 0 0]],[.agg #[.int .i64 20800,.slice none 0 0,.int .i64 53,.slice none 0 0]]⟩
theorem Zh3:Qp cx.bare Qs 3000 .leaf f87 (Qd f87) Qhb=some ():=by kernel_rfl
theorem Zgb:Qg cx.bare 87 Qhb:=Qg.Qi (Cx.Qm Qj) Qt (n:=3000) (an:=.leaf) (fn:=f87) (c:=Qd f87) (by kernel_rfl) (by kernel_rfl) Zh3 (by kernel_rfl)
def Qoo:LC:=⟨[.agg #[.int .i64 116000,.slice none 0 0,.int .i64 1,.slice none 0 0],.agg #[.int .i64 809600,.slice none 0 0,.int .i64 7,.slice none 0 0]],[.agg #[.int .i64 2400,.slice none 0 0,.int .i64 7,.slice none 0 0]]⟩
theorem Zae:Qp cx.bare Qs 3000 .leaf f87 (Qd f87) Qoo=some ():=by kernel_rfl
theorem Zcm:Qg cx.bare 87 Qoo:=Qg.Qi (Cx.Qm Qj) Qt (n:=3000) (an:=.leaf) (fn:=f87) (c:=Qd f87) (by kernel_rfl) (by kernel_rfl) Zae (by kernel_rfl)
def Qmi:LC:=⟨[.agg #[.int .i64 115630,.slice none 0 0,.int .i64 1,.slice none 0 0],.agg #[.int .i64 0,.slice none 0 0,.int .i64 1,.slice none 0 0]],[.agg #[.int .i64 115630,.slice none 0 0,.int .i64 1,.slice none 0 0]]⟩
theorem Zhn:Qp cx.bare Qs 3000 .leaf f87 (Qd f87) Qmi=some ():=by kernel_rfl
theorem Zsi:Qg cx.bare 87 Qmi:=Qg.Qi (Cx.Qm Qj) Qt (n:=3000) (an:=.leaf) (fn:=f87) (c:=Qd f87) (by kernel_rfl) (by kernel_rfl) Zhn (by kernel_rfl)
def Qme:LC:=⟨[.agg #[.int .i64 115630,.slice none 0 0,.int .i64 1,.slice none 0 0],.agg #[.int .i64 6127200,.slice none 0 0,.int .i64 53,.slice none 0 0]],[.agg #[.int .i64 1190,.slice none 0 0,.int .i64 53,.slice none 0 0]]⟩
theorem Ztw:Qp cx.bare Qs 3000 .leaf f87 (Qd f87) Qme=some ():=by kernel_rfl
theorem Zb8:Qg cx.bare 87 Qme:=Qg.Qi (Cx.Qm Qj) Qt (n:=3000) (an:=.leaf) (fn:=f87) (c:=Qd f87) (by kernel_rfl) (by kernel_rfl) Ztw (by kernel_rfl)
def Qo0:List LC:=[Qls,Qn1,Qk6,Qpl,Qib,Qo6,Qm3,Qj9,Qkq,Qlx,Qkx,Qgi,Qjx,Qhh,Qkv,Qlc,Qpf,Qlv,Qiu,Qj2,Qoe,Ql5,Qkp,Qlo,Qph,Qmx]
theorem Qsu:Yr cx.bare 79 (Z3 Qo0):=Jo ⟨f79,by kernel_rfl⟩ (Qq Zoh (Qq Zj4 (Qq Zjl (Qq Zj1 (Qq Zii (Qq Zs4 (Qq Zko (Qq Zb5 (Qq Zc2 (Qq Zl6 (Qq Zdu (Qq Zth (Qq Zps (Qq Zh9 (Qq Zhy (Qq Zf6 (Qq Zga (Qq Zdb (Qq Zek (Qq Ztk (Qq Zg4 (Qq Zbx (Qq Zbz (Qq Zcv (Qq Zin (Qq Zpe (Jq)))))))))))))))))))))))))))
def Qhd:List LC:=[Qhp,Qn2,Qjw,Qin,Ql9,Qk7,Qhq,Qmt,Qg6,Qg1,Qia,Qj5,Qlb,Qix,Qob,Qnf,Qkh,Qi0,Qo4,Qpb,Qny,Qhu,Qo3,Qko,Qie,Qj4,Qng,Qmg,Qi1,Qmy,Qhj,Qka,Qow,Qpa,Qkk,Qlk,Qjr]
theorem Qso:Yr cx.bare 78 (Z3 Qhd):=Jo ⟨f78,by kernel_rfl⟩ (Qq Zia (Qq Zc5 (Qq Zqa (Qq Zpu (Qq Zgj (Qq Zn3 (Qq Zoj (Qq Zlk (Qq Zqo (Qq Zo4 (Qq Zrq (Qq Zel (Qq Zon (Qq Zj6 (Qq Zrl (Qq Zrd (Qq Zql (Qq Zcq (Qq Znv (Qq Zhh (Qq Zog (Qq Zl9 (Qq Zhs (Qq Znl (Qq Zq4 (Qq Zq9 (Qq Zrt (Qq Zft (Qq Zfg (Qq Zc1 (Qq Zle (Qq Zij (Qq Zk2 (Qq Zp3 (Qq Zmz (Qq Zl4 (Qq Zjd (Jq))))))))))))))))))))))))))))))))))))))
def Qkb:List LC:=[Qo8,Qkj,Qki,Qhf,Qo2,Qk9,Qjn,Qit,Qg4,Qli,Qnt,Qod,Qp1,Qlz,Qkf,Qnh]
theorem Qs9:Yr cx.bare 83 (Z3 Qkb):=Jo ⟨f83,by kernel_rfl⟩ (Qq Zh7 (Qq Zlb (Qq Zak (Qq Zo8 (Qq Zsn (Qq Ziy (Qq Zrm (Qq Zau (Qq Zmg (Qq Zkh (Qq Zhk (Qq Zm4 (Qq Zit (Qq Zm5 (Qq Zge (Qq Zbi (Jq)))))))))))))))))
def Qgh:List LC:=[Ql1,Qky,Qh7,Qop,Qjf,Qpx,Qmq,Qkd,Qlw,Qp0,Qg8,Qo5]
theorem Qry:Yr cx.bare 75 (Z3 Qgh):=Jo ⟨f75,by kernel_rfl⟩ (Qq Znr (Qq Ze6 (Qq Zas (Qq Zf5 (Qq Zfk (Qq Zju (Qq Zdk (Qq Zer (Qq Zkl (Qq Zdq (Qq Zjz (Qq Zsa (Jq)))))))))))))
def Qgk:List LC:=[Qjp,Qpe,Qoi,Qmb,Qpp,Qn9,Qjq,Qih,Qm8,Qm5,Qot,Qi5,Qgl,Qhc,Qof,Qmo,Qil]
theorem Qy0:Yr cx.bare 84 (Z3 Qgk):=Jo ⟨f84,by kernel_rfl⟩ (Qq Zgq (Qq Zbj (Qq Zgx (Qq Ze8 (Qq Zgp (Qq Zq3 (Qq Zk0 (Qq Zdy (Qq Zs2 (Qq Znz (Qq Zka (Qq Zci (Qq Zmn (Qq Zky (Qq Ze7 (Qq Zoa (Qq Zmv (Jq))))))))))))))))))
def Qo9:List LC:=[Qi7,Qpo,Qi3,Qg7]
theorem Qqh:Yr cx.bare 86 (Z3 Qo9):=Jo ⟨f86,by kernel_rfl⟩ (Qq Zfx (Qq Zqb (Qq Zdp (Qq Zj5 (Jq)))))
def Qn3:List LC:=[Qid,Qhb,Qoo,Qmi,Qme]
theorem Qwe:Yr cx.bare 87 (Z3 Qn3):=Jo ⟨f87,by kernel_rfl⟩ (Qq Zrk (Qq Zgb (Qq Zcm (Qq Zsi (Qq Zb8 (Jq))))))
noncomputable def lxN:Lx:={ext:=[(121,(Qbx 400).sm),(79,Z3 Qo0),(78,Z3 Qhd),(83,Z3 Qkb),(75,Z3 Qgh),(84,Z3 Qgk),(86,Z3 Qo9),(87,Z3 Qn3)],anns:=[],still:=[]}
theorem Zl:lxN.Ok cx.bare:=Lx.Qz (PC.Q2 (Qfy 400).bare) (Lx.Qz (Qsu) (Lx.Qz (Qso) (Lx.Qz (Qs9) (Lx.Qz (Qry) (Lx.Qz (Qy0) (Lx.Qz (Qqh) (Lx.Qz (Qwe) (Lx.Zk))))))))
def Qzb:(Int×Int×Int×Int×Int×Int)×Int:=((84390,36500,1220,300,200,8),1)
def Quo:List Int×Int:=([0,3518,7351,11183,15016,18849,22681,26514],0)
abbrev Qic:List Qk:=[.agg [.int .i64,.int .i64,.int .i64,.int .i64,.int .i64,.int .i64],.val (.int .i64)]
abbrev Qnv:List Qk:=[.val (.seq [.int .i64]),.val (.int .i64)]
theorem Zq6:Zf cx.bare lxN 3000 .leaf f32 (Qd f32) Qic Qnv Qzb=some Quo:=by kernel_rfl
noncomputable def Qwv:PC:={ats:=Qic,rts:=Qnv,code:=Go.Sx.one (ats:=Qic) (rts:=Qnv) Qzb Quo}
theorem Zp1:Qw cx.bare 32 Qwv:=Qw.Qi (Cx.Qm Qj) Zl (n:=3000) (an:=.leaf) (fn:=f32) (c:=Qd f32) (by kernel_rfl) (by kernel_rfl) (fun a y h=>by obtain⟨h1,h2⟩:=Go.Sx.one_some h;subst h1;subst h2;exact Zq6) (by kernel_rfl)
def Qok:LC:=⟨[.agg #[.int .i64 0,.int .i64 0]],[.agg #[.int .i64 0,.slice none 0 0,.int .i64 1,.slice none 0 0],.agg #[.int .i64 0,.slice none 0 0,.int .i64 1,.slice none 0 0]]⟩
theorem Zi3:Qp cx.bare lxN 3000 .leaf f58 (Qd f58) Qok=some ():=by kernel_rfl
theorem Zax:Qg cx.bare 58 Qok:=Qg.Qi (Cx.Qm Qj) Zl (n:=3000) (an:=.leaf) (fn:=f58) (c:=Qd f58) (by kernel_rfl) (by kernel_rfl) Zi3 (by kernel_rfl)
def Qps:LC:=⟨[.agg #[.int .i64 0,.int .i64 1120]],[.agg #[.int .i64 186480,.slice none 0 0,.int .i64 53,.slice none 0 0],.agg #[.int .i64 3520,.slice none 0 0,.int .i64 1,.slice none 0 0]]⟩
theorem Zq7:Qp cx.bare lxN 3000 .leaf f58 (Qd f58) Qps=some ():=by kernel_rfl
theorem Zbk:Qg cx.bare 58 Qps:=Qg.Qi (Cx.Qm Qj) Zl (n:=3000) (an:=.leaf) (fn:=f58) (c:=Qd f58) (by kernel_rfl) (by kernel_rfl) Zq7 (by kernel_rfl)
def Qgy:LC:=⟨[.agg #[.int .i64 (-3518),.int .i64 1120]],[.agg #[.int .i64 26,.slice none 0 0,.int .i64 53,.slice none 0 0],.agg #[.int .i64 2,.slice none 0 0,.int .i64 1,.slice none 0 0]]⟩
theorem Zf2:Qp cx.bare lxN 3000 .leaf f58 (Qd f58) Qgy=some ():=by kernel_rfl
theorem Zob:Qg cx.bare 58 Qgy:=Qg.Qi (Cx.Qm Qj) Zl (n:=3000) (an:=.leaf) (fn:=f58) (c:=Qd f58) (by kernel_rfl) (by kernel_rfl) Zf2 (by kernel_rfl)
def Qhi:LC:=⟨[.agg #[.int .i64 0,.int .i64 2340]],[.agg #[.int .i64 389610,.slice none 0 0,.int .i64 53,.slice none 0 0],.agg #[.int .i64 51480,.slice none 0 0,.int .i64 7,.slice none 0 0]]⟩
theorem Zbf:Qp cx.bare lxN 3000 .leaf f58 (Qd f58) Qhi=some ():=by kernel_rfl
theorem Zl1:Qg cx.bare 58 Qhi:=Qg.Qi (Cx.Qm Qj) Zl (n:=3000) (an:=.leaf) (fn:=f58) (c:=Qd f58) (by kernel_rfl) (by kernel_rfl) Zbf (by kernel_rfl)
def Qiv:LC:=⟨[.agg #[.int .i64 (-7351),.int .i64 2340]],[.agg #[.int .i64 7,.slice none 0 0,.int .i64 53,.slice none 0 0],.agg #[.int .i64 23,.slice none 0 0,.int .i64 7,.slice none 0 0]]⟩
theorem Zte:Qp cx.bare lxN 3000 .leaf f58 (Qd f58) Qiv=some ():=by kernel_rfl
theorem Zb7:Qg cx.bare 58 Qiv:=Qg.Qi (Cx.Qm Qj) Zl (n:=3000) (an:=.leaf) (fn:=f58) (c:=Qd f58) (by kernel_rfl) (by kernel_rfl) Zte (by kernel_rfl)
def Qjb:LC:=⟨[.agg #[.int .i64 0,.int .i64 3560]],[.agg #[.int .i64 592740,.slice none 0 0,.int .i64 53,.slice none 0 0],.agg #[.int .i64 78320,.slice none 0 0,.int .i64 7,.slice none 0 0]]⟩
theorem Zb4:Qp cx.bare lxN 3000 .leaf f58 (Qd f58) Qjb=some ():=by kernel_rfl
theorem Zce:Qg cx.bare 58 Qjb:=Qg.Qi (Cx.Qm Qj) Zl (n:=3000) (an:=.leaf) (fn:=f58) (c:=Qd f58) (by kernel_rfl) (by kernel_rfl) Zb4 (by kernel_rfl)
def Qou:LC:=⟨[.agg #[.int .i64 (-11183),.int .i64 3560]],[.agg #[.int .i64 41,.slice none 0 0,.int .i64 53,.slice none 0 0],.agg #[.int .i64 39,.slice none 0 0,.int .i64 7,.slice none 0 0]]⟩
theorem Zmj:Qp cx.bare lxN 3000 .leaf f58 (Qd f58) Qou=some ():=by kernel_rfl
theorem Ztj:Qg cx.bare 58 Qou:=Qg.Qi (Cx.Qm Qj) Zl (n:=3000) (an:=.leaf) (fn:=f58) (c:=Qd f58) (by kernel_rfl) (by kernel_rfl) Zmj (by kernel_rfl)
def Qgr:LC:=⟨[.agg #[.int .i64 0,.int .i64 4780]],[.agg #[.int .i64 795870,.slice none 0 0,.int .i64 53,.slice none 0 0],.agg #[.int .i64 105160,.slice none 0 0,.int .i64 7,.slice none 0 0]]⟩
theorem Zsw:Qp cx.bare lxN 3000 .leaf f58 (Qd f58) Qgr=some ():=by kernel_rfl
theorem Zr4:Qg cx.bare 58 Qgr:=Qg.Qi (Cx.Qm Qj) Zl (n:=3000) (an:=.leaf) (fn:=f58) (c:=Qd f58) (by kernel_rfl) (by kernel_rfl) Zsw (by kernel_rfl)
def Qkg:LC:=⟨[.agg #[.int .i64 (-15016),.int .i64 4780]],[.agg #[.int .i64 22,.slice none 0 0,.int .i64 53,.slice none 0 0],.agg #[.int .i64 48,.slice none 0 0,.int .i64 7,.slice none 0 0]]⟩
theorem Zta:Qp cx.bare lxN 3000 .leaf f58 (Qd f58) Qkg=some ():=by kernel_rfl
theorem Za5:Qg cx.bare 58 Qkg:=Qg.Qi (Cx.Qm Qj) Zl (n:=3000) (an:=.leaf) (fn:=f58) (c:=Qd f58) (by kernel_rfl) (by kernel_rfl) Zta (by kernel_rfl)
def Ql8:LC:=⟨[.agg #[.int .i64 0,.int .i64 6000]],[.agg #[.int .i64 999000,.slice none 0 0,.int .i64 53,.slice none 0 0],.agg #[.int .i64 132000,.slice none 0 0,.int .i64 7,.slice none 0 0]]⟩
theorem Zf3:Qp cx.bare lxN 3000 .leaf f58 (Qd f58) Ql8=some ():=by kernel_rfl
theorem Zm1:Qg cx.bare 58 Ql8:=Qg.Qi (Cx.Qm Qj) Zl (n:=3000) (an:=.leaf) (fn:=f58) (c:=Qd f58) (by kernel_rfl) (by kernel_rfl) Zf3 (by kernel_rfl)
def Qkw:LC:=⟨[.agg #[.int .i64 (-18849),.int .i64 6000]],[.agg #[.int .i64 3,.slice none 0 0,.int .i64 53,.slice none 0 0],.agg #[.int .i64 57,.slice none 0 0,.int .i64 7,.slice none 0 0]]⟩
theorem Zjp:Qp cx.bare lxN 3000 .leaf f58 (Qd f58) Qkw=some ():=by kernel_rfl
theorem Zdn:Qg cx.bare 58 Qkw:=Qg.Qi (Cx.Qm Qj) Zl (n:=3000) (an:=.leaf) (fn:=f58) (c:=Qd f58) (by kernel_rfl) (by kernel_rfl) Zjp (by kernel_rfl)
def Ql2:LC:=⟨[.agg #[.int .i64 0,.int .i64 7220]],[.agg #[.int .i64 1202130,.slice none 0 0,.int .i64 53,.slice none 0 0],.agg #[.int .i64 158840,.slice none 0 0,.int .i64 7,.slice none 0 0]]⟩
theorem Zgy:Qp cx.bare lxN 3000 .leaf f58 (Qd f58) Ql2=some ():=by kernel_rfl
theorem Zcb:Qg cx.bare 58 Ql2:=Qg.Qi (Cx.Qm Qj) Zl (n:=3000) (an:=.leaf) (fn:=f58) (c:=Qd f58) (by kernel_rfl) (by kernel_rfl) Zgy (by kernel_rfl)
def Qpd:LC:=⟨[.agg #[.int .i64 (-22681),.int .i64 7220]],[.agg #[.int .i64 37,.slice none 0 0,.int .i64 53,.slice none 0 0],.agg #[.int .i64 73,.slice none 0 0,.int .i64 7,.slice none 0 0]]⟩
theorem Zk5:Qp cx.bare lxN 3000 .leaf f58 (Qd f58) Qpd=some ():=by kernel_rfl
theorem Zcr:Qg cx.bare 58 Qpd:=Qg.Qi (Cx.Qm Qj) Zl (n:=3000) (an:=.leaf) (fn:=f58) (c:=Qd f58) (by kernel_rfl) (by kernel_rfl) Zk5 (by kernel_rfl)
def Qnc:LC:=⟨[.agg #[.int .i64 0,.int .i64 8440]],[.agg #[.int .i64 1405260,.slice none 0 0,.int .i64 53,.slice none 0 0],.agg #[.int .i64 185680,.slice none 0 0,.int .i64 7,.slice none 0 0]]⟩
theorem Zai:Qp cx.bare lxN 3000 .leaf f58 (Qd f58) Qnc=some ():=by kernel_rfl
theorem Zgi:Qg cx.bare 58 Qnc:=Qg.Qi (Cx.Qm Qj) Zl (n:=3000) (an:=.leaf) (fn:=f58) (c:=Qd f58) (by kernel_rfl) (by kernel_rfl) Zai (by kernel_rfl)
def Qnp:LC:=⟨[.agg #[.int .i64 (-26514),.int .i64 8440]],[.agg #[.int .i64 18,.slice none 0 0,.int .i64 53,.slice none 0 0],.agg #[.int .i64 82,.slice none 0 0,.int .i64 7,.slice none 0 0]]⟩
theorem Zkq:Qp cx.bare lxN 3000 .leaf f58 (Qd f58) Qnp=some ():=by kernel_rfl
theorem Zd2:Qg cx.bare 58 Qnp:=Qg.Qi (Cx.Qm Qj) Zl (n:=3000) (an:=.leaf) (fn:=f58) (c:=Qd f58) (by kernel_rfl) (by kernel_rfl) Zkq (by kernel_rfl)
def Qm0:LC:=⟨[.agg #[.int .i64 0,.int .i64 1]],[.agg #[.int .i64 333,.slice none 0 0,.int .i64 106,.slice none 0 0],.agg #[.int .i64 22,.slice none 0 0,.int .i64 7,.slice none 0 0]]⟩
theorem Zma:Qp cx.bare lxN 3000 .leaf f58 (Qd f58) Qm0=some ():=by kernel_rfl
theorem Zec:Qg cx.bare 58 Qm0:=Qg.Qi (Cx.Qm Qj) Zl (n:=3000) (an:=.leaf) (fn:=f58) (c:=Qd f58) (by kernel_rfl) (by kernel_rfl) Zma (by kernel_rfl)
def Qom:LC:=⟨[.agg #[.int .i64 0,.slice none 0 0,.int .i64 1,.slice none 0 0],.agg #[.int .i64 0,.slice none 0 0,.int .i64 1,.slice none 0 0]],[.agg #[.string (bs [48]),.string (bs [48])]]⟩
theorem Zn5:Qp cx.bare lxN 3000 .leaf f59 (Qd f59) Qom=some ():=by kernel_rfl
theorem Zj0:Qg cx.bare 59 Qom:=Qg.Qi (Cx.Qm Qj) Zl (n:=3000) (an:=.leaf) (fn:=f59) (c:=Qd f59) (by kernel_rfl) (by kernel_rfl) Zn5 (by kernel_rfl)
def Qkr:LC:=⟨[.agg #[.int .i64 26,.slice none 0 0,.int .i64 53,.slice none 0 0],.agg #[.int .i64 2,.slice none 0 0,.int .i64 1,.slice none 0 0]],[.agg #[.string (bs [50,54,47,53,51]),.string (bs [50])]]⟩
theorem Zoe:Qp cx.bare lxN 3000 .leaf f59 (Qd f59) Qkr=some ():=by kernel_rfl
theorem Zmd:Qg cx.bare 59 Qkr:=Qg.Qi (Cx.Qm Qj) Zl (n:=3000) (an:=.leaf) (fn:=f59) (c:=Qd f59) (by kernel_rfl) (by kernel_rfl) Zoe (by kernel_rfl)
def Qmc:LC:=⟨[.agg #[.int .i64 7,.slice none 0 0,.int .i64 53,.slice none 0 0],.agg #[.int .i64 23,.slice none 0 0,.int .i64 7,.slice none 0 0]],[.agg #[.string (bs [55,47,53,51]),.string (bs [50,51,47,55])]]⟩
theorem Zqc:Qp cx.bare lxN 3000 .leaf f59 (Qd f59) Qmc=some ():=by kernel_rfl
theorem Zmq:Qg cx.bare 59 Qmc:=Qg.Qi (Cx.Qm Qj) Zl (n:=3000) (an:=.leaf) (fn:=f59) (c:=Qd f59) (by kernel_rfl) (by kernel_rfl) Zqc (by kernel_rfl)
def Qov:LC:=⟨[.agg #[.int .i64 41,.slice none 0 0,.int .i64 53,.slice none 0 0],.agg #[.int .i64 39,.slice none 0 0,.int .i64 7,.slice none 0 0]],[.agg #[.string (bs [52,49,47,53,51]),.string (bs [51,57,47,55])]]⟩
theorem Zjq:Qp cx.bare lxN 3000 .leaf f59 (Qd f59) Qov=some ():=by kernel_rfl
theorem Zie:Qg cx.bare 59 Qov:=Qg.Qi (Cx.Qm Qj) Zl (n:=3000) (an:=.leaf) (fn:=f59) (c:=Qd f59) (by kernel_rfl) (by kernel_rfl) Zjq (by kernel_rfl)
def Qgs:LC:=⟨[.agg #[.int .i64 22,.slice none 0 0,.int .i64 53,.slice none 0 0],.agg #[.int .i64 48,.slice none 0 0,.int .i64 7,.slice none 0 0]],[.agg #[.string (bs [50,50,47,53,51]),.string (bs [52,56,47,55])]]⟩
theorem Zgf:Qp cx.bare lxN 3000 .leaf f59 (Qd f59) Qgs=some ():=by kernel_rfl
theorem Ztm:Qg cx.bare 59 Qgs:=Qg.Qi (Cx.Qm Qj) Zl (n:=3000) (an:=.leaf) (fn:=f59) (c:=Qd f59) (by kernel_rfl) (by kernel_rfl) Zgf (by kernel_rfl)
def Qlm:LC:=⟨[.agg #[.int .i64 3,.slice none 0 0,.int .i64 53,.slice none 0 0],.agg #[.int .i64 57,.slice none 0 0,.int .i64 7,.slice none 0 0]],[.agg #[.string (bs [51,47,53,51]),.string (bs [53,55,47,55])]]⟩
theorem Zk8:Qp cx.bare lxN 3000 .leaf f59 (Qd f59) Qlm=some ():=by kernel_rfl
theorem Zcw:Qg cx.bare 59 Qlm:=Qg.Qi (Cx.Qm Qj) Zl (n:=3000) (an:=.leaf) (fn:=f59) (c:=Qd f59) (by kernel_rfl) (by kernel_rfl) Zk8 (by kernel_rfl)
def Qpz:LC:=⟨[.agg #[.int .i64 37,.slice none 0 0,.int .i64 53,.slice none 0 0],.agg #[.int .i64 73,.slice none 0 0,.int .i64 7,.slice none 0 0]],[.agg #[.string (bs [51,55,47,53,51]),.string (bs [55,51,47,55])]]⟩
theorem Zpg:Qp cx.bare lxN 3000 .leaf f59 (Qd f59) Qpz=some ():=by kernel_rfl
theorem Zqw:Qg cx.bare 59 Qpz:=Qg.Qi (Cx.Qm Qj) Zl (n:=3000) (an:=.leaf) (fn:=f59) (c:=Qd f59) (by kernel_rfl) (by kernel_rfl) Zpg (by kernel_rfl)
def Qgq:LC:=⟨[.agg #[.int .i64 18,.slice none 0 0,.int .i64 53,.slice none 0 0],.agg #[.int .i64 82,.slice none 0 0,.int .i64 7,.slice none 0 0]],[.agg #[.string (bs [49,56,47,53,51]),.string (bs [56,50,47,55])]]⟩
theorem Zdm:Qp cx.bare lxN 3000 .leaf f59 (Qd f59) Qgq=some ():=by kernel_rfl
theorem Zmr:Qg cx.bare 59 Qgq:=Qg.Qi (Cx.Qm Qj) Zl (n:=3000) (an:=.leaf) (fn:=f59) (c:=Qd f59) (by kernel_rfl) (by kernel_rfl) Zdm (by kernel_rfl)
def Qhm:LC:=⟨[.agg #[.int .i64 20800,.slice none 0 0,.int .i64 53,.slice none 0 0],.agg #[.int .i64 2400,.slice none 0 0,.int .i64 7,.slice none 0 0]],[.agg #[.string (bs [50,52,48,48,47,55]),.string (bs [50,48,56,48,48,47,53,51])]]⟩
theorem Zaj:Qp cx.bare lxN 3000 .leaf f59 (Qd f59) Qhm=some ():=by kernel_rfl
theorem Zgg:Qg cx.bare 59 Qhm:=Qg.Qi (Cx.Qm Qj) Zl (n:=3000) (an:=.leaf) (fn:=f59) (c:=Qd f59) (by kernel_rfl) (by kernel_rfl) Zaj (by kernel_rfl)
def Qj7:LC:=⟨[.agg #[.int .i64 84390,.int .i64 36500,.int .i64 1220,.int .i64 300,.int .i64 200,.int .i64 8],.int .i64 36800,.int .i64 1],[.int .i64 0]⟩
theorem Znf:Qp cx.bare lxN 3000 .leaf f57 (Qd f57) Qj7=some ():=by kernel_rfl
theorem Zow:Qg cx.bare 57 Qj7:=Qg.Qi (Cx.Qm Qj) Zl (n:=3000) (an:=.leaf) (fn:=f57) (c:=Qd f57) (by kernel_rfl) (by kernel_rfl) Znf (by kernel_rfl)
def Ql6:LC:=⟨[.agg #[.int .i64 84390,.int .i64 36500,.int .i64 1220,.int .i64 300,.int .i64 200,.int .i64 8],.int .i64 37920,.int .i64 1],[.int .i64 3518]⟩
theorem Znq:Qp cx.bare lxN 3000 .leaf f57 (Qd f57) Ql6=some ():=by kernel_rfl
theorem Zlp:Qg cx.bare 57 Ql6:=Qg.Qi (Cx.Qm Qj) Zl (n:=3000) (an:=.leaf) (fn:=f57) (c:=Qd f57) (by kernel_rfl) (by kernel_rfl) Znq (by kernel_rfl)
def Qgo:LC:=⟨[.agg #[.int .i64 84390,.int .i64 36500,.int .i64 1220,.int .i64 300,.int .i64 200,.int .i64 8],.int .i64 39140,.int .i64 1],[.int .i64 7351]⟩
theorem Zbo:Qp cx.bare lxN 3000 .leaf f57 (Qd f57) Qgo=some ():=by kernel_rfl
theorem Zlo:Qg cx.bare 57 Qgo:=Qg.Qi (Cx.Qm Qj) Zl (n:=3000) (an:=.leaf) (fn:=f57) (c:=Qd f57) (by kernel_rfl) (by kernel_rfl) Zbo (by kernel_rfl)
def Qo7:LC:=⟨[.agg #[.int .i64 84390,.int .i64 36500,.int .i64 1220,.int .i64 300,.int .i64 200,.int .i64 8],.int .i64 40360,.int .i64 1],[.int .i64 11183]⟩
theorem Zti:Qp cx.bare lxN 3000 .leaf f57 (Qd f57) Qo7=some ():=by kernel_rfl
theorem Zif:Qg cx.bare 57 Qo7:=Qg.Qi (Cx.Qm Qj) Zl (n:=3000) (an:=.leaf) (fn:=f57) (c:=Qd f57) (by kernel_rfl) (by kernel_rfl) Zti (by kernel_rfl)
def Qlr:LC:=⟨[.agg #[.int .i64 84390,.int .i64 36500,.int .i64 1220,.int .i64 300,.int .i64 200,.int .i64 8],.int .i64 41580,.int .i64 1],[.int .i64 15016]⟩
theorem Zfd:Qp cx.bare lxN 3000 .leaf f57 (Qd f57) Qlr=some ():=by kernel_rfl
theorem Zme:Qg cx.bare 57 Qlr:=Qg.Qi (Cx.Qm Qj) Zl (n:=3000) (an:=.leaf) (fn:=f57) (c:=Qd f57) (by kernel_rfl) (by kernel_rfl) Zfd (by kernel_rfl)
def Qjd:LC:=⟨[.agg #[.int .i64 84390,.int .i64 36500,.int .i64 1220,.int .i64 300,.int .i64 200,.int .i64 8],.int .i64 42800,.int .i64 1],[.int .i64 18849]⟩
theorem Za1:Qp cx.bare lxN 3000 .leaf f57 (Qd f57) Qjd=some ():=by kernel_rfl
theorem Zsh:Qg cx.bare 57 Qjd:=Qg.Qi (Cx.Qm Qj) Zl (n:=3000) (an:=.leaf) (fn:=f57) (c:=Qd f57) (by kernel_rfl) (by kernel_rfl) Za1 (by kernel_rfl)
def Qht:LC:=⟨[.agg #[.int .i64 84390,.int .i64 36500,.int .i64 1220,.int .i64 300,.int .i64 200,.int .i64 8],.int .i64 44020,.int .i64 1],[.int .i64 22681]⟩
theorem Zhv:Qp cx.bare lxN 3000 .leaf f57 (Qd f57) Qht=some ():=by kernel_rfl
theorem Zsp:Qg cx.bare 57 Qht:=Qg.Qi (Cx.Qm Qj) Zl (n:=3000) (an:=.leaf) (fn:=f57) (c:=Qd f57) (by kernel_rfl) (by kernel_rfl) Zhv (by kernel_rfl)
def Qg0:LC:=⟨[.agg #[.int .i64 84390,.int .i64 36500,.int .i64 1220,.int .i64 300,.int .i64 200,.int .i64 8],.int .i64 45240,.int .i64 1],[.int .i64 26514]⟩
theorem Zo6:Qp cx.bare lxN 3000 .leaf f57 (Qd f57) Qg0=some ():=by kernel_rfl
theorem Znx:Qg cx.bare 57 Qg0:=Qg.Qi (Cx.Qm Qj) Zl (n:=3000) (an:=.leaf) (fn:=f57) (c:=Qd f57) (by kernel_rfl) (by kernel_rfl) Zo6 (by kernel_rfl)
def Qk8:LC:=⟨[.agg #[.int .i64 84390,.int .i64 36500,.int .i64 1220,.int .i64 300,.int .i64 200,.int .i64 8],.int .i64 1,.int .i64 116000,.agg #[.int .i64 333,.slice none 0 0,.int .i64 106,.slice none 0 0]],[.int .i64 0,.int .i64 1,.agg #[.int .i64 20800,.slice none 0 0,.int .i64 53,.slice none 0 0]]⟩
theorem Zhi:Qp cx.bare lxN 3000 .leaf f62 (Qd f62) Qk8=some ():=by kernel_rfl
theorem Zkx:Qg cx.bare 62 Qk8:=Qg.Qi (Cx.Qm Qj) Zl (n:=3000) (an:=.leaf) (fn:=f62) (c:=Qd f62) (by kernel_rfl) (by kernel_rfl) Zhi (by kernel_rfl)
def Qhw:LC:=⟨[.agg #[.int .i64 84390,.int .i64 36500,.int .i64 1220,.int .i64 300,.int .i64 200,.int .i64 8],.int .i64 1,.int .i64 116000,.agg #[.int .i64 22,.slice none 0 0,.int .i64 7,.slice none 0 0]],[.int .i64 0,.int .i64 1,.agg #[.int .i64 2400,.slice none 0 0,.int .i64 7,.slice none 0 0]]⟩
theorem Zan:Qp cx.bare lxN 3000 .leaf f62 (Qd f62) Qhw=some ():=by kernel_rfl
theorem Zoi:Qg cx.bare 62 Qhw:=Qg.Qi (Cx.Qm Qj) Zl (n:=3000) (an:=.leaf) (fn:=f62) (c:=Qd f62) (by kernel_rfl) (by kernel_rfl) Zan (by kernel_rfl)
end Go.Proofs.Tryz
