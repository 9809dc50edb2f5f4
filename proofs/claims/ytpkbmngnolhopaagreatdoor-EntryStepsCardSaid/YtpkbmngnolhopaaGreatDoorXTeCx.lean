/- The tables of the program for the evaluator. By program. The statements of the seat out of functions of data: the laid world, the row, the card. -/
import Derived.Test.YtpkbmngnolhopaaGreatDoorXSxQh
import Derived.Test.YtpkbmngnolhopaaGreatDoorChecked
import Derived.Test.YtpkbmngnolhopaaGreatDoorCards
import Derived.Test.YtpkbmngnolhopaaGreatDoorTie
import Derived.LaidLaws
import Derived.Stop.Joined
set_option maxRecDepth 100000
open ByteArray renaming empty->I
namespace Go.Proofs.Tryz
open Go Go.Sx
def tm(n:Nat)(a b:TypeInfo)(r:Option (List Ty)):Nat×TI:=(n,{Qe7 a b with row:=r})
def tn(n:Nat)(a b:TypeInfo):Nat×TI:=tm n a b none
theorem tC{t:Nat}{i j:TypeInfo}{rest:Qr}{r:Option (List Ty)}(hi:prog.info? t=some i)(hu:prog.underlying t=some j.desc)(hr:Q9 prog rest)(hz:i.zero.isSome=true:=by kernel_rfl)(h1:Qw2 (Qe7 i j)=true:=by kernel_rfl):Q9 prog (tm t i j r::rest):=Q9.Yrx hi hu hz h1 hr
theorem fC{g:Nat}{gn:Func}{rest:List (Nat×Func)}(h1:prog.funcs[g]? =some gn)(h2:∀args w,(callFunc g args).run prog w=.ok (.enter g args) w)(hr:X6 prog rest):X6 prog ((g,gn)::rest):=X6.cons h1 h2 hr
noncomputable def Zg1:Qr:=[]
theorem Zt9:Q9 prog Zg1:=Q9.nil _
noncomputable def Zgj:Qr:=tn 325 t325 t324::tn 326 t326 t326::tn 327 t327 t327::tn 328 t328 t327::tn 329 t329 t5::tn 330 t330 t5::tn 331 t331 t331::tn 332 t332 t21::tn 333 t333 t21::tn 334 t334 t334::tn 335 t335 t334::Zg1
theorem Zt7:Q9 prog Zgj:=tC type325 underlying325 <| tC type326 underlying326 <| tC type327 underlying327 <| tC type328 underlying328 <| tC type329 underlying329 <| tC type330 underlying330 <| tC type331 underlying331 <| tC type332 underlying332 <| tC type333 underlying333 <| tC type334 underlying334 <| tC type335 underlying335 <| Zt9
noncomputable def Zfi:Qr:=tn 296 t296 t296::tn 297 t297 t297::tn 298 t298 t298::tn 299 t299 t299::tn 300 t300 t299::tn 301 t301 t301::tn 302 t302 t302::tn 303 t303 t302::tn 305 t305 t305::tn 306 t306 t306::tn 307 t307 t307::tn 308 t308 t308::tn 310 t310 t310::tn 312 t312 t312::tn 314 t314 t314::tn 315 t315 t315::tn 316 t316 t316::tn 317 t317 t317::tn 318 t318 t318::tn 319 t319 t319::tn 320 t320 t320::tn 321 t321 t321::tn 322 t322 t322::tn 323 t323 t323::tn 324 t324 t324::Zgj
theorem Ygj:Q9 prog Zfi:=tC type296 underlying296 <| tC type297 underlying297 <| tC type298 underlying298 <| tC type299 underlying299 <| tC type300 underlying300 <| tC type301 underlying301 <| tC type302 underlying302 <| tC type303 underlying303 <| tC type305 underlying305 <| tC type306 underlying306 <| tC type307 underlying307 <| tC type308 underlying308 <| tC type310 underlying310 <| tC type312 underlying312 <| tC type314 underlying314 <| tC type315 underlying315 <| tC type316 underlying316 <| tC type317 underlying317 <| tC type318 underlying318 <| tC type319 underlying319 <| tC type320 underlying320 <| tC type321 underlying321 <| tC type322 underlying322 <| tC type323 underlying323 <| tC type324 underlying324 <| Zt7
noncomputable def Zlg:Qr:=tn 267 t267 t267::tn 268 t268 t3::tn 270 t270 t270::tn 271 t271 t271::tn 272 t272 t272::tn 274 t274 t274::tn 275 t275 t275::tn 276 t276 t276::tn 277 t277 t277::tn 278 t278 t278::tn 279 t279 t279::tn 280 t280 t280::tn 281 t281 t281::tn 282 t282 t278::tn 283 t283 t283::tn 284 t284 t284::tn 285 t285 t285::tn 286 t286 t286::tn 287 t287 t287::tn 288 t288 t288::tn 289 t289 t289::tn 290 t290 t290::tn 291 t291 t291::tn 292 t292 t292::tn 294 t294 t294::Zfi
theorem Zwt:Q9 prog Zlg:=tC type267 underlying267 <| tC type268 underlying268 <| tC type270 underlying270 <| tC type271 underlying271 <| tC type272 underlying272 <| tC type274 underlying274 <| tC type275 underlying275 <| tC type276 underlying276 <| tC type277 underlying277 <| tC type278 underlying278 <| tC type279 underlying279 <| tC type280 underlying280 <| tC type281 underlying281 <| tC type282 underlying282 <| tC type283 underlying283 <| tC type284 underlying284 <| tC type285 underlying285 <| tC type286 underlying286 <| tC type287 underlying287 <| tC type288 underlying288 <| tC type289 underlying289 <| tC type290 underlying290 <| tC type291 underlying291 <| tC type292 underlying292 <| tC type294 underlying294 <| Ygj
noncomputable def Zke:Qr:=tn 242 t242 t242::tn 243 t243 t243::tn 244 t244 t244::tn 245 t245 t244::tn 246 t246 t246::tn 247 t247 t247::tn 248 t248 t248::tn 249 t249 t249::tn 250 t250 t250::tn 251 t251 t251::tn 252 t252 t252::tn 253 t253 t253::tn 254 t254 t254::tn 255 t255 t255::tn 256 t256 t256::tn 257 t257 t257::tn 258 t258 t258::tn 259 t259 t259::tn 260 t260 t260::tn 261 t261 t261::tn 262 t262 t262::tn 263 t263 t263::tn 264 t264 t264::tn 265 t265 t265::tn 266 t266 t266::Zlg
theorem Yla:Q9 prog Zke:=tC type242 underlying242 <| tC type243 underlying243 <| tC type244 underlying244 <| tC type245 underlying245 <| tC type246 underlying246 <| tC type247 underlying247 <| tC type248 underlying248 <| tC type249 underlying249 <| tC type250 underlying250 <| tC type251 underlying251 <| tC type252 underlying252 <| tC type253 underlying253 <| tC type254 underlying254 <| tC type255 underlying255 <| tC type256 underlying256 <| tC type257 underlying257 <| tC type258 underlying258 <| tC type259 underlying259 <| tC type260 underlying260 <| tC type261 underlying261 <| tC type262 underlying262 <| tC type263 underlying263 <| tC type264 underlying264 <| tC type265 underlying265 <| tC type266 underlying266 <| Zwt
noncomputable def Zc5:Qr:=tn 216 t216 t216::tn 217 t217 t217::tn 218 t218 t218::tn 219 t219 t219::tn 220 t220 t220::tn 221 t221 t221::tn 222 t222 t222::tn 223 t223 t223::tn 224 t224 t224::tn 225 t225 t225::tn 226 t226 t226::tn 227 t227 t227::tn 228 t228 t228::tn 229 t229 t229::tn 230 t230 t230::tn 231 t231 t231::tn 232 t232 t231::tn 234 t234 t234::tn 235 t235 t235::tn 236 t236 t236::tn 237 t237 t237::tn 238 t238 t238::tn 239 t239 t239::tn 240 t240 t240::tn 241 t241 t241::Zke
theorem Ym1:Q9 prog Zc5:=tC type216 underlying216 <| tC type217 underlying217 <| tC type218 underlying218 <| tC type219 underlying219 <| tC type220 underlying220 <| tC type221 underlying221 <| tC type222 underlying222 <| tC type223 underlying223 <| tC type224 underlying224 <| tC type225 underlying225 <| tC type226 underlying226 <| tC type227 underlying227 <| tC type228 underlying228 <| tC type229 underlying229 <| tC type230 underlying230 <| tC type231 underlying231 <| tC type232 underlying232 <| tC type234 underlying234 <| tC type235 underlying235 <| tC type236 underlying236 <| tC type237 underlying237 <| tC type238 underlying238 <| tC type239 underlying239 <| tC type240 underlying240 <| tC type241 underlying241 <| Yla
noncomputable def Zjv:Qr:=tn 188 t188 t188::tn 189 t189 t189::tn 190 t190 t190::tn 191 t191 t191::tn 192 t192 t192::tn 193 t193 t193::tn 194 t194 t194::tn 195 t195 t195::tn 196 t196 t196::tn 197 t197 t196::tn 198 t198 t198::tn 199 t199 t199::tn 200 t200 t200::tm 201 t201 t200 (some [.int .i64,.int .i64])::tn 202 t202 t202::tn 203 t203 t203::tn 204 t204 t204::tn 205 t205 t205::tn 207 t207 t207::tn 208 t208 t208::tn 209 t209 t209::tn 211 t211 t211::tn 212 t212 t212::tn 214 t214 t214::tn 215 t215 t215::Zc5
theorem Ztb:Q9 prog Zjv:=tC type188 underlying188 <| tC type189 underlying189 <| tC type190 underlying190 <| tC type191 underlying191 <| tC type192 underlying192 <| tC type193 underlying193 <| tC type194 underlying194 <| tC type195 underlying195 <| tC type196 underlying196 <| tC type197 underlying197 <| tC type198 underlying198 <| tC type199 underlying199 <| tC type200 underlying200 <| tC type201 underlying201 <| tC type202 underlying202 <| tC type203 underlying203 <| tC type204 underlying204 <| tC type205 underlying205 <| tC type207 underlying207 <| tC type208 underlying208 <| tC type209 underlying209 <| tC type211 underlying211 <| tC type212 underlying212 <| tC type214 underlying214 <| tC type215 underlying215 <| Ym1
noncomputable def Zj1:Qr:=tn 162 t162 t162::tn 163 t163 t163::tn 164 t164 t164::tn 165 t165 t165::tn 166 t166 t166::tn 167 t167 t167::tn 168 t168 t168::tn 169 t169 t169::tn 170 t170 t170::tn 171 t171 t170::tn 173 t173 t173::tn 174 t174 t174::tn 175 t175 t175::tn 176 t176 t176::tn 177 t177 t177::tn 178 t178 t178::tn 179 t179 t179::tn 180 t180 t180::tn 181 t181 t181::tn 182 t182 t182::tn 183 t183 t183::tn 184 t184 t184::tn 185 t185 t185::tn 186 t186 t186::tn 187 t187 t187::Zjv
theorem Yh4:Q9 prog Zj1:=tC type162 underlying162 <| tC type163 underlying163 <| tC type164 underlying164 <| tC type165 underlying165 <| tC type166 underlying166 <| tC type167 underlying167 <| tC type168 underlying168 <| tC type169 underlying169 <| tC type170 underlying170 <| tC type171 underlying171 <| tC type173 underlying173 <| tC type174 underlying174 <| tC type175 underlying175 <| tC type176 underlying176 <| tC type177 underlying177 <| tC type178 underlying178 <| tC type179 underlying179 <| tC type180 underlying180 <| tC type181 underlying181 <| tC type182 underlying182 <| tC type183 underlying183 <| tC type184 underlying184 <| tC type185 underlying185 <| tC type186 underlying186 <| tC type187 underlying187 <| Ztb
noncomputable def Zk5:Qr:=tn 136 t136 t136::tn 137 t137 t137::tn 139 t139 t139::tn 140 t140 t140::tn 141 t141 t141::tn 142 t142 t142::tn 143 t143 t143::tn 144 t144 t144::tn 145 t145 t145::tn 146 t146 t146::tm 147 t147 t146 (some [.str,.str,.seq [.str]])::tn 148 t148 t148::tm 149 t149 t105 (some [.str,.str,.str,.int .i64,.str,.int .i64,.bool])::tm 150 t150 t146 (some [.str,.str,.seq [.str]])::tn 151 t151 t151::tn 152 t152 t152::tn 153 t153 t153::tn 154 t154 t154::tn 155 t155 t155::tn 156 t156 t156::tn 157 t157 t157::tn 158 t158 t158::tn 159 t159 t159::tn 160 t160 t160::tn 161 t161 t161::Zj1
theorem Yna:Q9 prog Zk5:=tC type136 underlying136 <| tC type137 underlying137 <| tC type139 underlying139 <| tC type140 underlying140 <| tC type141 underlying141 <| tC type142 underlying142 <| tC type143 underlying143 <| tC type144 underlying144 <| tC type145 underlying145 <| tC type146 underlying146 <| tC type147 underlying147 <| tC type148 underlying148 <| tC type149 underlying149 <| tC type150 underlying150 <| tC type151 underlying151 <| tC type152 underlying152 <| tC type153 underlying153 <| tC type154 underlying154 <| tC type155 underlying155 <| tC type156 underlying156 <| tC type157 underlying157 <| tC type158 underlying158 <| tC type159 underlying159 <| tC type160 underlying160 <| tC type161 underlying161 <| Yh4
noncomputable def Zg8:Qr:=tn 107 t107 t107::tn 108 t108 t108::tn 109 t109 t109::tm 110 t110 t95 (some [.str,.str,.str,.int .i64,.int .i64,.int .i64,.int .i64,.str,.int .i64,.str,.int .i64])::tn 112 t112 t112::tn 113 t113 t113::tn 114 t114 t114::tn 115 t115 t115::tm 116 t116 t115 (some [.str,.str,.int .i64,.str])::tn 117 t117 t117::tn 118 t118 t118::tn 119 t119 t119::tn 120 t120 t120::tn 121 t121 t121::tn 122 t122 t122::tn 123 t123 t123::tm 124 t124 t123 (some [.str,.int .i64,.int .i64])::tm 125 t125 t123 (some [.str,.int .i64,.int .i64])::tn 127 t127 t127::tn 129 t129 t129::tn 130 t130 t130::tn 131 t131 t131::tn 132 t132 t132::tn 133 t133 t133::tn 134 t134 t134::Zk5
theorem Zml:Q9 prog Zg8:=tC type107 underlying107 <| tC type108 underlying108 <| tC type109 underlying109 <| tC type110 underlying110 <| tC type112 underlying112 <| tC type113 underlying113 <| tC type114 underlying114 <| tC type115 underlying115 <| tC type116 underlying116 <| tC type117 underlying117 <| tC type118 underlying118 <| tC type119 underlying119 <| tC type120 underlying120 <| tC type121 underlying121 <| tC type122 underlying122 <| tC type123 underlying123 <| tC type124 underlying124 <| tC type125 underlying125 <| tC type127 underlying127 <| tC type129 underlying129 <| tC type130 underlying130 <| tC type131 underlying131 <| tC type132 underlying132 <| tC type133 underlying133 <| tC type134 underlying134 <| Yna
noncomputable def Zhr:Qr:=tn 80 t80 t80::tn 82 t82 t82::tn 83 t83 t83::tn 84 t84 t84::tn 85 t85 t85::tn 86 t86 t86::tn 87 t87 t87::tn 88 t88 t88::tn 89 t89 t89::tm 90 t90 t90 (some [.str,.str])::tn 91 t91 t91::tn 92 t92 t92::tn 93 t93 t92::tn 94 t94 t94::tn 95 t95 t95::tm 96 t96 t95 (some [.str,.str,.str,.int .i64,.int .i64,.int .i64,.int .i64,.str,.int .i64,.str,.int .i64])::tn 97 t97 t97::tn 98 t98 t98::tn 99 t99 t99::tn 100 t100 t100::tm 101 t101 t100 (some [.int .i64,.int .i64])::tn 103 t103 t103::tn 104 t104 t104::tn 105 t105 t105::tm 106 t106 t105 (some [.str,.str,.str,.int .i64,.str,.int .i64,.bool])::Zg8
theorem Zvb:Q9 prog Zhr:=tC type80 underlying80 <| tC type82 underlying82 <| tC type83 underlying83 <| tC type84 underlying84 <| tC type85 underlying85 <| tC type86 underlying86 <| tC type87 underlying87 <| tC type88 underlying88 <| tC type89 underlying89 <| tC type90 underlying90 <| tC type91 underlying91 <| tC type92 underlying92 <| tC type93 underlying93 <| tC type94 underlying94 <| tC type95 underlying95 <| tC type96 underlying96 <| tC type97 underlying97 <| tC type98 underlying98 <| tC type99 underlying99 <| tC type100 underlying100 <| tC type101 underlying101 <| tC type103 underlying103 <| tC type104 underlying104 <| tC type105 underlying105 <| tC type106 underlying106 <| Zml
noncomputable def Zfb:Qr:=tm 51 t51 t3 (some [.int .i64])::tn 52 t52 t52::tn 53 t53 t53::tn 54 t54 t54::tn 55 t55 t55::tn 56 t56 t56::tn 57 t57 t57::tn 58 t58 t58::tn 59 t59 t59::tn 60 t60 t60::tn 61 t61 t61::tn 62 t62 t62::tn 63 t63 t63::tn 65 t65 t65::tn 66 t66 t66::tn 67 t67 t67::tn 68 t68 t68::tn 70 t70 t70::tn 71 t71 t71::tn 72 t72 t72::tn 73 t73 t73::tn 74 t74 t74::tn 76 t76 t76::tn 77 t77 t77::tn 79 t79 t79::Zhr
theorem Zsw:Q9 prog Zfb:=tC type51 underlying51 <| tC type52 underlying52 <| tC type53 underlying53 <| tC type54 underlying54 <| tC type55 underlying55 <| tC type56 underlying56 <| tC type57 underlying57 <| tC type58 underlying58 <| tC type59 underlying59 <| tC type60 underlying60 <| tC type61 underlying61 <| tC type62 underlying62 <| tC type63 underlying63 <| tC type65 underlying65 <| tC type66 underlying66 <| tC type67 underlying67 <| tC type68 underlying68 <| tC type70 underlying70 <| tC type71 underlying71 <| tC type72 underlying72 <| tC type73 underlying73 <| tC type74 underlying74 <| tC type76 underlying76 <| tC type77 underlying77 <| tC type79 underlying79 <| Zvb
noncomputable def Zjo:Qr:=tn 26 t26 t26::tn 27 t27 t27::tn 28 t28 t28::tn 29 t29 t29::tn 30 t30 t30::tn 31 t31 t30::tn 32 t32 t32::tn 33 t33 t32::tn 34 t34 t34::tm 35 t35 t34 (some [.int .i64,.str,.str,.str,.str,.str,.int .i64,.int .i64,.str,.int .i64,.str,.seq [.str]])::tn 36 t36 t36::tn 37 t37 t37::tn 38 t38 t37::tn 39 t39 t39::tn 40 t40 t40::tn 41 t41 t41::tn 42 t42 t42::tn 43 t43 t43::tn 44 t44 t43::tn 45 t45 t45::tn 46 t46 t46::tn 47 t47 t47::tn 48 t48 t48::tm 49 t49 t34 (some [.int .i64,.str,.str,.str,.str,.str,.int .i64,.int .i64,.str,.int .i64,.str,.seq [.str]])::tn 50 t50 t50::Zfb
theorem Zwh:Q9 prog Zjo:=tC type26 underlying26 <| tC type27 underlying27 <| tC type28 underlying28 <| tC type29 underlying29 <| tC type30 underlying30 <| tC type31 underlying31 <| tC type32 underlying32 <| tC type33 underlying33 <| tC type34 underlying34 <| tC type35 underlying35 <| tC type36 underlying36 <| tC type37 underlying37 <| tC type38 underlying38 <| tC type39 underlying39 <| tC type40 underlying40 <| tC type41 underlying41 <| tC type42 underlying42 <| tC type43 underlying43 <| tC type44 underlying44 <| tC type45 underlying45 <| tC type46 underlying46 <| tC type47 underlying47 <| tC type48 underlying48 <| tC type49 underlying49 <| tC type50 underlying50 <| Zsw
noncomputable def Zc2:Qr:=tn 1 t1 t1::tn 2 t2 t2::tm 3 t3 t3 (some [.int .i64])::tn 4 t4 t4::tm 5 t5 t5 (some [.int .u8])::tn 6 t6 t5::tn 7 t7 t7::tn 8 t8 t7::tm 9 t9 t9 (some [.str])::tn 10 t10 t9::tn 11 t11 t9::tn 12 t12 t12::tn 13 t13 t13::tn 14 t14 t13::tn 15 t15 t15::tn 16 t16 t16::tn 17 t17 t17::tn 18 t18 t18::tn 19 t19 t18::tn 20 t20 t20::tn 21 t21 t21::tn 22 t22 t22::tn 23 t23 t23::tn 24 t24 t23::tn 25 t25 t25::Zjo
theorem Ybd:Q9 prog Zc2:=tC type1 underlying1 <| tC type2 underlying2 <| tC type3 underlying3 <| tC type4 underlying4 <| tC type5 underlying5 <| tC type6 underlying6 <| tC type7 underlying7 <| tC type8 underlying8 <| tC type9 underlying9 <| tC type10 underlying10 <| tC type11 underlying11 <| tC type12 underlying12 <| tC type13 underlying13 <| tC type14 underlying14 <| tC type15 underlying15 <| tC type16 underlying16 <| tC type17 underlying17 <| tC type18 underlying18 <| tC type19 underlying19 <| tC type20 underlying20 <| tC type21 underlying21 <| tC type22 underlying22 <| tC type23 underlying23 <| tC type24 underlying24 <| tC type25 underlying25 <| Zwh
noncomputable def Zk8:List (Nat×Func):=[]
theorem Zqp:X6 prog Zk8:=X6.nil _
noncomputable def Zf4:List (Nat×Func):=(279,f279)::(280,f280)::(303,f303)::Zk8
theorem Zxj:X6 prog Zf4:=fC func279 call279 <| fC func280 call280 <| fC func303 call303 <| Zqp
noncomputable def Zly:List (Nat×Func):=(252,f252)::(253,f253)::(254,f254)::(255,f255)::(256,f256)::(257,f257)::(258,f258)::(259,f259)::(260,f260)::(261,f261)::(262,f262)::(263,f263)::(264,f264)::(265,f265)::(266,f266)::(267,f267)::(268,f268)::(269,f269)::(270,f270)::(271,f271)::(272,f272)::(273,f273)::(274,f274)::(275,f275)::(276,f276)::Zf4
theorem Zux:X6 prog Zly:=fC func252 call252 <| fC func253 call253 <| fC func254 call254 <| fC func255 call255 <| fC func256 call256 <| fC func257 call257 <| fC func258 call258 <| fC func259 call259 <| fC func260 call260 <| fC func261 call261 <| fC func262 call262 <| fC func263 call263 <| fC func264 call264 <| fC func265 call265 <| fC func266 call266 <| fC func267 call267 <| fC func268 call268 <| fC func269 call269 <| fC func270 call270 <| fC func271 call271 <| fC func272 call272 <| fC func273 call273 <| fC func274 call274 <| fC func275 call275 <| fC func276 call276 <| Zxj
noncomputable def Zhz:List (Nat×Func):=(227,f227)::(228,f228)::(229,f229)::(230,f230)::(231,f231)::(232,f232)::(233,f233)::(234,f234)::(235,f235)::(236,f236)::(237,f237)::(238,f238)::(239,f239)::(240,f240)::(241,f241)::(242,f242)::(243,f243)::(244,f244)::(245,f245)::(246,f246)::(247,f247)::(248,f248)::(249,f249)::(250,f250)::(251,f251)::Zly
theorem Ykw:X6 prog Zhz:=fC func227 call227 <| fC func228 call228 <| fC func229 call229 <| fC func230 call230 <| fC func231 call231 <| fC func232 call232 <| fC func233 call233 <| fC func234 call234 <| fC func235 call235 <| fC func236 call236 <| fC func237 call237 <| fC func238 call238 <| fC func239 call239 <| fC func240 call240 <| fC func241 call241 <| fC func242 call242 <| fC func243 call243 <| fC func244 call244 <| fC func245 call245 <| fC func246 call246 <| fC func247 call247 <| fC func248 call248 <| fC func249 call249 <| fC func250 call250 <| fC func251 call251 <| Zux
noncomputable def Zll:List (Nat×Func):=(202,f202)::(203,f203)::(204,f204)::(205,f205)::(206,f206)::(207,f207)::(208,f208)::(209,f209)::(210,f210)::(211,f211)::(212,f212)::(213,f213)::(214,f214)::(215,f215)::(216,f216)::(217,f217)::(218,f218)::(219,f219)::(220,f220)::(221,f221)::(222,f222)::(223,f223)::(224,f224)::(225,f225)::(226,f226)::Zhz
theorem Yo0:X6 prog Zll:=fC func202 call202 <| fC func203 call203 <| fC func204 call204 <| fC func205 call205 <| fC func206 call206 <| fC func207 call207 <| fC func208 call208 <| fC func209 call209 <| fC func210 call210 <| fC func211 call211 <| fC func212 call212 <| fC func213 call213 <| fC func214 call214 <| fC func215 call215 <| fC func216 call216 <| fC func217 call217 <| fC func218 call218 <| fC func219 call219 <| fC func220 call220 <| fC func221 call221 <| fC func222 call222 <| fC func223 call223 <| fC func224 call224 <| fC func225 call225 <| fC func226 call226 <| Ykw
noncomputable def Zd8:List (Nat×Func):=(177,f177)::(178,f178)::(179,f179)::(180,f180)::(181,f181)::(182,f182)::(183,f183)::(184,f184)::(185,f185)::(186,f186)::(187,f187)::(188,f188)::(189,f189)::(190,f190)::(191,f191)::(192,f192)::(193,f193)::(194,f194)::(195,f195)::(196,f196)::(197,f197)::(198,f198)::(199,f199)::(200,f200)::(201,f201)::Zll
theorem Zw3:X6 prog Zd8:=fC func177 call177 <| fC func178 call178 <| fC func179 call179 <| fC func180 call180 <| fC func181 call181 <| fC func182 call182 <| fC func183 call183 <| fC func184 call184 <| fC func185 call185 <| fC func186 call186 <| fC func187 call187 <| fC func188 call188 <| fC func189 call189 <| fC func190 call190 <| fC func191 call191 <| fC func192 call192 <| fC func193 call193 <| fC func194 call194 <| fC func195 call195 <| fC func196 call196 <| fC func197 call197 <| fC func198 call198 <| fC func199 call199 <| fC func200 call200 <| fC func201 call201 <| Yo0
noncomputable def Zfl:List (Nat×Func):=(152,f152)::(153,f153)::(154,f154)::(155,f155)::(156,f156)::(157,f157)::(158,f158)::(159,f159)::(160,f160)::(161,f161)::(162,f162)::(163,f163)::(164,f164)::(165,f165)::(166,f166)::(167,f167)::(168,f168)::(169,f169)::(170,f170)::(171,f171)::(172,f172)::(173,f173)::(174,f174)::(175,f175)::(176,f176)::Zd8
theorem Yk7:X6 prog Zfl:=fC func152 call152 <| fC func153 call153 <| fC func154 call154 <| fC func155 call155 <| fC func156 call156 <| fC func157 call157 <| fC func158 call158 <| fC func159 call159 <| fC func160 call160 <| fC func161 call161 <| fC func162 call162 <| fC func163 call163 <| fC func164 call164 <| fC func165 call165 <| fC func166 call166 <| fC func167 call167 <| fC func168 call168 <| fC func169 call169 <| fC func170 call170 <| fC func171 call171 <| fC func172 call172 <| fC func173 call173 <| fC func174 call174 <| fC func175 call175 <| fC func176 call176 <| Zw3
noncomputable def Ziw:List (Nat×Func):=(127,f127)::(128,f128)::(129,f129)::(130,f130)::(131,f131)::(132,f132)::(133,f133)::(134,f134)::(135,f135)::(136,f136)::(137,f137)::(138,f138)::(139,f139)::(140,f140)::(141,f141)::(142,f142)::(143,f143)::(144,f144)::(145,f145)::(146,f146)::(147,f147)::(148,f148)::(149,f149)::(150,f150)::(151,f151)::Zfl
theorem Yf2:X6 prog Ziw:=fC func127 call127 <| fC func128 call128 <| fC func129 call129 <| fC func130 call130 <| fC func131 call131 <| fC func132 call132 <| fC func133 call133 <| fC func134 call134 <| fC func135 call135 <| fC func136 call136 <| fC func137 call137 <| fC func138 call138 <| fC func139 call139 <| fC func140 call140 <| fC func141 call141 <| fC func142 call142 <| fC func143 call143 <| fC func144 call144 <| fC func145 call145 <| fC func146 call146 <| fC func147 call147 <| fC func148 call148 <| fC func149 call149 <| fC func150 call150 <| fC func151 call151 <| Yk7
noncomputable def Zfe:List (Nat×Func):=(102,f102)::(103,f103)::(104,f104)::(105,f105)::(106,f106)::(107,f107)::(108,f108)::(109,f109)::(110,f110)::(111,f111)::(112,f112)::(113,f113)::(114,f114)::(115,f115)::(116,f116)::(117,f117)::(118,f118)::(119,f119)::(120,f120)::(121,f121)::(122,f122)::(123,f123)::(124,f124)::(125,f125)::(126,f126)::Ziw
theorem Yiy:X6 prog Zfe:=fC func102 call102 <| fC func103 call103 <| fC func104 call104 <| fC func105 call105 <| fC func106 call106 <| fC func107 call107 <| fC func108 call108 <| fC func109 call109 <| fC func110 call110 <| fC func111 call111 <| fC func112 call112 <| fC func113 call113 <| fC func114 call114 <| fC func115 call115 <| fC func116 call116 <| fC func117 call117 <| fC func118 call118 <| fC func119 call119 <| fC func120 call120 <| fC func121 call121 <| fC func122 call122 <| fC func123 call123 <| fC func124 call124 <| fC func125 call125 <| fC func126 call126 <| Yf2
noncomputable def Zln:List (Nat×Func):=(77,f77)::(78,f78)::(79,f79)::(80,f80)::(81,f81)::(82,f82)::(83,f83)::(84,f84)::(85,f85)::(86,f86)::(87,f87)::(88,f88)::(89,f89)::(90,f90)::(91,f91)::(92,f92)::(93,f93)::(94,f94)::(95,f95)::(96,f96)::(97,f97)::(98,f98)::(99,f99)::(100,f100)::(101,f101)::Zfe
theorem Zzy:X6 prog Zln:=fC func77 call77 <| fC func78 call78 <| fC func79 call79 <| fC func80 call80 <| fC func81 call81 <| fC func82 call82 <| fC func83 call83 <| fC func84 call84 <| fC func85 call85 <| fC func86 call86 <| fC func87 call87 <| fC func88 call88 <| fC func89 call89 <| fC func90 call90 <| fC func91 call91 <| fC func92 call92 <| fC func93 call93 <| fC func94 call94 <| fC func95 call95 <| fC func96 call96 <| fC func97 call97 <| fC func98 call98 <| fC func99 call99 <| fC func100 call100 <| fC func101 call101 <| Yiy
noncomputable def Zew:List (Nat×Func):=(52,f52)::(53,f53)::(54,f54)::(55,f55)::(56,f56)::(57,f57)::(58,f58)::(59,f59)::(60,f60)::(61,f61)::(62,f62)::(63,f63)::(64,f64)::(65,f65)::(66,f66)::(67,f67)::(68,f68)::(69,f69)::(70,f70)::(71,f71)::(72,f72)::(73,f73)::(74,f74)::(75,f75)::(76,f76)::Zln
theorem Ynl:X6 prog Zew:=fC func52 call52 <| fC func53 call53 <| fC func54 call54 <| fC func55 call55 <| fC func56 call56 <| fC func57 call57 <| fC func58 call58 <| fC func59 call59 <| fC func60 call60 <| fC func61 call61 <| fC func62 call62 <| fC func63 call63 <| fC func64 call64 <| fC func65 call65 <| fC func66 call66 <| fC func67 call67 <| fC func68 call68 <| fC func69 call69 <| fC func70 call70 <| fC func71 call71 <| fC func72 call72 <| fC func73 call73 <| fC func74 call74 <| fC func75 call75 <| fC func76 call76 <| Zzy
noncomputable def Zja:List (Nat×Func):=(27,f27)::(28,f28)::(29,f29)::(30,f30)::(31,f31)::(32,f32)::(33,f33)::(34,f34)::(35,f35)::(36,f36)::(37,f37)::(38,f38)::(39,f39)::(40,f40)::(41,f41)::(42,f42)::(43,f43)::(44,f44)::(45,f45)::(46,f46)::(47,f47)::(48,f48)::(49,f49)::(50,f50)::(51,f51)::Zew
theorem Zx0:X6 prog Zja:=fC func27 call27 <| fC func28 call28 <| fC func29 call29 <| fC func30 call30 <| fC func31 call31 <| fC func32 call32 <| fC func33 call33 <| fC func34 call34 <| fC func35 call35 <| fC func36 call36 <| fC func37 call37 <| fC func38 call38 <| fC func39 call39 <| fC func40 call40 <| fC func41 call41 <| fC func42 call42 <| fC func43 call43 <| fC func44 call44 <| fC func45 call45 <| fC func46 call46 <| fC func47 call47 <| fC func48 call48 <| fC func49 call49 <| fC func50 call50 <| fC func51 call51 <| Ynl
noncomputable def Zam:List (Nat×Func):=(2,f2)::(3,f3)::(4,f4)::(5,f5)::(6,f6)::(7,f7)::(8,f8)::(9,f9)::(10,f10)::(11,f11)::(12,f12)::(13,f13)::(14,f14)::(15,f15)::(16,f16)::(17,f17)::(18,f18)::(19,f19)::(20,f20)::(21,f21)::(22,f22)::(23,f23)::(24,f24)::(25,f25)::(26,f26)::Zja
theorem Ydg:X6 prog Zam:=fC func2 call2 <| fC func3 call3 <| fC func4 call4 <| fC func5 call5 <| fC func6 call6 <| fC func7 call7 <| fC func8 call8 <| fC func9 call9 <| fC func10 call10 <| fC func11 call11 <| fC func12 call12 <| fC func13 call13 <| fC func14 call14 <| fC func15 call15 <| fC func16 call16 <| fC func17 call17 <| fC func18 call18 <| fC func19 call19 <| fC func20 call20 <| fC func21 call21 <| fC func22 call22 <| fC func23 call23 <| fC func24 call24 <| fC func25 call25 <| fC func26 call26 <| Zx0
noncomputable def tab:Qr:=Zc2
noncomputable def fns:List (Nat×Func):=Zam
noncomputable def cx:Cx:={P:=prog,tab:=tab,fns:=fns}
theorem Z7:cx.Ok:=⟨show Q9 prog tab from Ybd,show X6 prog fns from Ydg,by kernel_rfl⟩
theorem kC{g:Nat}{p:PC}{l:List (Nat×Sm)}{an:List (Nat×Zb)}{st:List Nat}(h:Qg cx g p)(t:Lx.Ok cx {ext:=l,anns:=an,still:=st}):Lx.Ok cx {ext:=(g,p.sm)::l,anns:=an,still:=st}:=Lx.Zk (PC.Qq h) t
theorem kX{g:Nat}{p:PX}{l:List (Nat×Sm)}{an:List (Nat×Zb)}{st:List Nat}(h:Zi cx g p)(t:Lx.Ok cx {ext:=l,anns:=an,still:=st}):Lx.Ok cx {ext:=(g,p.sm)::l,anns:=an,still:=st}:=Lx.Zk (PX.Qq h) t
structure LK where
 l:List (Nat×Sm)
 a:List (Nat×Zb)
 ok:Lx.Ok cx {ext:=l,anns:=a,still:=[]}
def LK.x(k:LK):Lx:={ext:=k.l,anns:=k.a,still:=[]}
def lB(a:List (Nat×Zb)):LK:=⟨[],a,Lx.Um⟩
def lN:LK:=lB []
def lS{g:Nat}{s:Sm}(h:Qfd cx g s)(t:LK):LK:=⟨(g,s)::t.l,t.a,Lx.Zk h t.ok⟩
noncomputable def lC{g:Nat}{p:PC}(h:Qg cx g p)(t:LK):LK:=⟨(g,p.sm)::t.l,t.a,kC h t.ok⟩
noncomputable def qT(k:LK)(an:Zb)(fn:Func)(ats rts:List Qe):PC:=pcT cx k.x an fn (Qo fn) ats rts
theorem Qt9{g:Nat}{k:LK}{an:Zb}{fn:Func}{ats rts:List Qe}(h:(cx.fns.lookup g,fn.body,Nat.ble ats.length fn.ntmps)=(some fn,some (Qo fn),true)):Qg cx g (qT k an fn ats rts):=Zpx Z7 k.ok (congrArg (fun x=>x.1) h) (congrArg (fun x=>x.2.1) h) (congrArg (fun x=>x.2.2) h)
theorem qE{g:Nat}{p:PC}(k:LK)(an:Zb)(fn:Func)(h:(cx.fns.lookup g,fn.body,Nat.ble p.ats.length fn.ntmps)=(some fn,some (Qo fn),true))(hc:∀a,Zp cx k.x 1000 an fn (Qo fn) p.ats p.rts a=p.code a):Qg cx g p:=Qg.Z6 Z7 k.ok (n:=1000) (an:=an) (fn:=fn) (c:=Qo fn) (congrArg (fun x=>x.1) h) (congrArg (fun x=>x.2.1) h) (fun a _ e=>(hc a).trans e) (congrArg (fun x=>x.2.2) h)
noncomputable def qX(k:LK)(an:Zb)(fn:Func)(p:PX):PX:=pxT cx k.x an fn (Qo fn) p
theorem Vr{g:Nat}{k:LK}{an:Zb}{fn:Func}{p:PX}(h:(cx.fns.lookup g,fn.body,Nat.ble p.np fn.ntmps,p.ω.V8 p.ids&&subset p.mv p.ids)=(some fn,some (Qo fn),true,true)):Zi cx g (qX k an fn p):=Zg4 Z7 k.ok (congrArg (fun x=>x.1) h) (congrArg (fun x=>x.2.1) h) (congrArg (fun x=>x.2.2.1) h) (congrArg (fun x=>x.2.2.2) h)
theorem Yn{g:Nat}{p:PX}(k:LK)(an:Zb)(fn:Func)(h:(cx.fns.lookup g,fn.body,Nat.ble p.np fn.ntmps,p.ω.V8 p.ids&&subset p.mv p.ids)=(some fn,some (Qo fn),true,true))(hc:∀a,Qr6 cx k.x 1000 an fn (Qo fn) p a=p.code a):Zi cx g p:=Zi.Z6 Z7 k.ok (n:=1000) (an:=an) (fn:=fn) (c:=Qo fn) (congrArg (fun x=>x.1) h) (congrArg (fun x=>x.2.1) h) (fun a _ e=>(hc a).trans e) (congrArg (fun x=>x.2.2.1) h) (congrArg (fun x=>x.2.2.2) h)
noncomputable def lX{g:Nat}{p:PX}(h:Zi cx g p)(t:LK):LK:=⟨(g,p.sm)::t.l,t.a,kX h t.ok⟩
def tw{X:Type}(e:X->X->Bool)(A:Option X):Option X:=Option.bind A fun v=>Option.bind A fun w=>gd (e v w) (some v)
def kD(n k:Nat)(l:List Nat):List Nat:=Nat.rec (motive:=fun _=>Nat->List Nat) (fun _=>l) (fun _ r n=>n::r (n-1)) k n
def kU(n k:Nat)(l:List Nat):List Nat:=Nat.rec (motive:=fun _=>Nat->List Nat) (fun _=>l) (fun _ r n=>n::r (n+1)) k n
def Q5(n:Nat)(a:Zb):Zb:=Nat.rec (motive:=fun _=>Zb) a (fun _ r=>.two .leaf r) n
abbrev Z9:List Ty:=[.str]
abbrev Zr:List Ty:=[.str,.str,.str,.int .i64,.str,.int .i64,.bool]
abbrev kt2:List Ty:=[.str,.int .i64,.int .i64]
abbrev kt3:List Ty:=[.str,.str,.int .i64,.str]
abbrev kt4:List Ty:=[.str,.str,.str,.int .i64,.int .i64,.int .i64,.int .i64,.str,.int .i64,.str,.int .i64]
abbrev kt5:List Ty:=[.int .i64,.int .i64]
abbrev kt6:List Ty:=[.int .i64]
abbrev kt7:List Ty:=[.str,.int .i64,.str]
abbrev kt8:List Ty:=[.str,.str]
abbrev kt9:List Ty:=[.str,.str,.seq Z9]
abbrev Xe:List Ty:=[.int .i64,.str,.str,.str,.str,.str,.int .i64,.int .i64,.str,.int .i64,.str,.seq Z9]
abbrev Xj:List Ty:=[.int .i64,.int .i64,.int .i64,.int .i64,.seq kt4]
abbrev Ze:List Ty:=[.seq Z9,.seq kt3,.seq kt2,.seq Zr,.seq kt9]
abbrev Zj:List Qe:=[.val (.int .i64)]
abbrev Xi:List Qe:=[.val (.bool)]
abbrev X8:List Qe:=[.agg Xj,.agg Ze,.agg Xe]
abbrev Vf:List Qe:=[.agg Ze]
abbrev Qcc:List Qe:=[.val (.seq Zr)]
abbrev Uk:List Qe:=[.agg Xe]
abbrev Qab:List Qe:=[.val (.str)]
abbrev U2:List Qe:=[.agg Ze,.val (.int .i64)]
abbrev Qbe:List Qe:=[.agg Ze,.agg Xe]
abbrev Qcj:List Qe:=[.val (.seq Z9)]
abbrev Qgi:List Qe:=[.val (.seq kt2)]
abbrev Qfe:List Qe:=[.agg Ze,.val (.str)]
abbrev Qzk:List Qe:=[.agg Xj,.agg Ze,.val (.str)]
abbrev Qub:List Qe:=[.val (.seq kt9)]
abbrev Qfy:List Qe:=[.val (.seq kt3)]
abbrev Ql8:List Qe:=[.agg Ze,.val (.str),.val (.str)]
abbrev Qo8:List Qe:=[.agg Xj,.agg Ze]
abbrev Zai:List Qe:=[.val (.bool),.val (.int .i64)]
abbrev Qn9:List Qe:=[.val (.int .i64),.val (.int .i64)]
abbrev Qoh:List Qe:=[.val (.seq Z9),.val (.str)]
abbrev Qv5:List Qe:=[.val (.seq Z9),.val (.int .i64)]
abbrev Qwy:List Qe:=[.agg Xj,.val (.seq Xe)]
abbrev Zge:List Qe:=[.val (.seq kt2),.val (.str),.val (.int .i64)]
abbrev Zct:List Qe:=[.val (.int .i64),.val (.int .i64),.val (.int .i64)]
abbrev Zmo:List Qe:=[.agg Xj,.agg Ze,.val (.str),.val (.bool)]
abbrev Zxk:List Qe:=[.agg Xj,.agg Ze,.val (.str),.val (.str)]
abbrev Qz:=Int×ByteArray×ByteArray×ByteArray×ByteArray×ByteArray×Int×Int×ByteArray×Int×ByteArray×List ByteArray
abbrev Yu:=ByteArray×ByteArray×ByteArray×Int×Int×Int×Int×ByteArray×Int×ByteArray×Int
abbrev Qi:=ByteArray×ByteArray×ByteArray×Int×ByteArray×Int×Bool
abbrev Qv:=ByteArray×ByteArray×List ByteArray
abbrev Qs:=ByteArray×ByteArray×Int×ByteArray
abbrev Zc:=Int×Int×Int×Int×List (Yu)
abbrev Qh:=List ByteArray×List (Qs)×List (ByteArray×Int×Int)×List (Qi)×List (Qv)
abbrev Qw:=ByteArray×Int×Int
abbrev Z0:=ByteArray×ByteArray×ByteArray×ByteArray×Int×Int×ByteArray×Int×ByteArray×List ByteArray
abbrev Zd:Yu:=(I,I,I,(0:Int),(0:Int),(0:Int),(0:Int),I,(0:Int),I,(0:Int))
abbrev Zg:Qi:=(I,I,I,(0:Int),I,(0:Int),Bool.false)
abbrev Zy:Qs:=(I,I,(0:Int),I)
end Go.Proofs.Tryz
namespace Go.Proofs.Tryz
open Go Go.Sx Go.Proofs.YtpkbmngnolhopaaGreatDoor
theorem own:ownKnob prog.godebug=none:=by kernel_rfl
theorem laidOut:laidOutB prog=true:=by kernel_rfl
def Quv:DataW Unit->Array Value
 |.agg l=>(l.filterMap fun d=>match d with|.lit (.int k n)=>some (Value.int k n)|_=>none).toArray
 |_=>#[]
def setCells(cs:Array Value):Obj->Obj
 |.cells _ t frozen=>.cells cs t frozen
 |o=>o
noncomputable def Ul(os:Os):World:=
 {World.holding prog os ⟨#[],#[],[]⟩with heap:=(((World.holding prog os ⟨#[],#[],[]⟩).heap.modify 2 (setCells (Quv Rows.laid_math_bits_deBruijn32tab))).modify 3 (setCells (Quv Rows.laid_math_bits_deBruijn64tab))).modify 0 (setCells (Quv Rows.laid_internal_strconv_uint64pow10))}
def Qqe:List (String×DataW Unit):=Rows.entryViewsRow.laid
theorem Ydz(os:Os)(args:Array Value):laidMet prog Qqe ((Ul os).forCall (fun _ _=>0) ⟨#[],args,[]⟩).memory:=
 laidMet_of_run' 8 (by kernel_rfl) (by kernel_rfl)
theorem Yon{f:FuncId}{fn:Func}{s:ChangeSpec}{ats:List Qe}{c:Nat->Qt ats->Option Bool}{tb:TypeId}(args0:Array Value)(os:Os)(started:os.Started)(H:Type)(enc:TypeId×Value->H)
  (hni:prog.inits.idxOf? f=none) (hfn:prog.funcs[f]? =some fn)
  (hv:((Ul os).forCall (fun _ _=>0) ⟨#[],args0,[]⟩).variablesB prog=true)
  (hr:((((Ul os).forCall (fun _ _=>0) ⟨#[],args0,[]⟩).heap.toList.drop prog.globals.size).take ((begin prog (fun _ _=>0) default).world.heap.size - prog.globals.size) =
   (begin prog (fun _ _=>0) default).world.heap.toList.drop prog.globals.size))
  (hok:Input.okWideB prog ((Ul os).forCall (fun _ _=>0) ⟨#[],args0,[]⟩) f ⟨#[],args0,[]⟩=true)
  (hpre:s.preB enc prog fn [] false ((Ul os).forCall (fun _ _=>0) ⟨#[],args0,[]⟩).memory args0 8=true)
  (hsz:s.sizedB enc prog fn false ((Ul os).forCall (fun _ _=>0) ⟨#[],args0,[]⟩).memory args0 8=true)
  (hps:(fn.params.toList.all fun t=>prog.readableRec t&&decide (t<prog.types.size))=true) (hk:Qg7 prog fn.params.toList=some ats)
  (hres:fn.resultTypes= #[tb]) (htb:prog.underlying tb=some .bool) (hvars:s.vars=[]) (hspec:∀ds:List (DataW H),ds.length=fn.params.toList.length->s.fn H ds={results:=[.lit (.bool true)],args:=ds})
  (hpc:∀F,Qg cx f ⟨ats,[.val .bool],c F⟩) (law:∀a,Qt.ok ats a->∃F,c F a=some true):
  ReturnsInHanded {} checked os f .any (fun w args=>(s.pre enc prog fn [] false w args∧laidMet prog Qqe w)∧sizedMet enc prog fn (OpenSpec.ofChange s) false w args)
   (s.post enc prog fn false true false false):=by
 refine returnsInHanded_of_change_and (C:=checked) (X:=fun w _=>laidMet prog Qqe w) (fun _ _ _ hh h=>h.of_heap hh) own started hni hfn
  (ChangeSpec.witness_at (enc:=enc) (C:=checked) (os:=os) (X:=fun w _=>laidMet prog Qqe w) false (Ul os) args0 8 rfl hv hr hok hpre hsz (Ydz os args0)) ?_
 intro W base args ds gs before hval hW _ hwt _ _;exact Ykl (cx:=cx) laidOut hps hk hres htb hvars hspec hpc law hval hW hwt
end Go.Proofs.Tryz
