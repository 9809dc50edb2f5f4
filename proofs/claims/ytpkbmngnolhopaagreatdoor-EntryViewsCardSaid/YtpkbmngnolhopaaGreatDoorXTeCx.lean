/- The tables of the program for the evaluator. By program. -/
import Derived.Test.YtpkbmngnolhopaaGreatDoorXSxQe
import Derived.Test.YtpkbmngnolhopaaGreatDoorChecked
set_option maxRecDepth 100000
namespace Go.Proofs.Tryz
open Go Go.Sx
def tm (n:Nat) (a b:TypeInfo) (r:Option (List Ty)):Nat × TI := (n,{ mkTI a b with row := r })
def tn (n:Nat) (a b:TypeInfo):Nat × TI := tm n a b none
noncomputable def tab:Tab := [tn 1 t1 t1,tn 2 t2 t2,tm 3 t3 t3 (some [.int .i64]),tn 4 t4 t4,tm 5 t5 t5 (some [.int .u8]),tn 6 t6 t5,tn 7 t7 t7,tn 8 t8 t7,tm 9 t9 t9 (some [.str]),tn 10 t10 t9,tn 11 t11 t9,tn 12 t12 t12,tn 13 t13 t13,tn 14 t14 t13,tn 15 t15 t15,tn 16 t16 t16,tn 17 t17 t17,tn 18 t18 t18,tn 19 t19 t18,tn 20 t20 t20,tn 21 t21 t21,tn 22 t22 t22,tn 23 t23 t23,tn 24 t24 t23,tn 25 t25 t25,tn 26 t26 t26,tn 27 t27 t27,tn 28 t28 t28,tn 29 t29 t29,tn 30 t30 t30,tn 31 t31 t30,tn 32 t32 t32,tn 33 t33 t32,tn 34 t34 t34,tm 35 t35 t34 (some [.int .i64,.str,.str,.str,.str,.str,.int .i64,.int .i64,.str,.int .i64,.str,.seq [.str]]),tn 36 t36 t36,tn 37 t37 t37,tn 38 t38 t37,tn 39 t39 t39,tn 40 t40 t40,tn 41 t41 t41,tn 42 t42 t42,tn 43 t43 t43,tn 44 t44 t43,tn 45 t45 t45,tn 46 t46 t46,tn 47 t47 t47,tn 48 t48 t48,tm 49 t49 t34 (some [.int .i64,.str,.str,.str,.str,.str,.int .i64,.int .i64,.str,.int .i64,.str,.seq [.str]]),tn 50 t50 t50,tm 51 t51 t3 (some [.int .i64]),tn 52 t52 t52,tn 53 t53 t53,tn 54 t54 t54,tn 55 t55 t55,tn 56 t56 t56,tn 57 t57 t57,tn 58 t58 t58,tn 59 t59 t59,tn 60 t60 t60,tn 61 t61 t61,tn 62 t62 t62,tn 63 t63 t63,tn 65 t65 t65,tn 66 t66 t66,tn 67 t67 t67,tn 68 t68 t68,tn 70 t70 t70,tn 71 t71 t71,tn 72 t72 t72,tn 73 t73 t73,tn 74 t74 t74,tn 76 t76 t76,tn 77 t77 t77,tn 79 t79 t79,tn 80 t80 t80,tn 82 t82 t82,tn 83 t83 t83,tn 84 t84 t84,tn 85 t85 t85,tn 86 t86 t86,tn 87 t87 t87,tn 88 t88 t88,tn 89 t89 t89,tm 90 t90 t90 (some [.str,.str]),tn 91 t91 t91,tn 92 t92 t92,tn 93 t93 t92,tn 94 t94 t94,tn 95 t95 t95,tm 96 t96 t95 (some [.str,.str,.str,.int .i64,.int .i64,.int .i64,.int .i64,.str,.int .i64,.str,.int .i64]),tn 97 t97 t97,tn 98 t98 t98,tn 99 t99 t99,tn 100 t100 t100,tm 101 t101 t100 (some [.int .i64,.int .i64]),tn 103 t103 t103,tn 104 t104 t104,tn 105 t105 t105,tm 106 t106 t105 (some [.str,.str,.str,.int .i64,.str,.int .i64,.bool]),tn 107 t107 t107,tn 108 t108 t108,tn 109 t109 t109,tm 110 t110 t95 (some [.str,.str,.str,.int .i64,.int .i64,.int .i64,.int .i64,.str,.int .i64,.str,.int .i64]),tn 112 t112 t112,tn 113 t113 t113,tn 114 t114 t114,tn 115 t115 t115,tm 116 t116 t115 (some [.str,.str,.int .i64,.str]),tn 117 t117 t117,tn 118 t118 t118,tn 119 t119 t119,tn 120 t120 t120,tn 121 t121 t121,tn 122 t122 t122,tn 123 t123 t123,tm 124 t124 t123 (some [.str,.int .i64,.int .i64]),tm 125 t125 t123 (some [.str,.int .i64,.int .i64]),tn 127 t127 t127,tn 129 t129 t129,tn 130 t130 t130,tn 131 t131 t131,tn 132 t132 t132,tn 133 t133 t133,tn 134 t134 t134,tn 136 t136 t136,tn 137 t137 t137,tn 139 t139 t139,tn 140 t140 t140,tn 141 t141 t141,tn 142 t142 t142,tn 143 t143 t143,tn 144 t144 t144,tn 145 t145 t145,tn 146 t146 t146,tm 147 t147 t146 (some [.str,.str,.seq [.str]]),tn 148 t148 t148,tm 149 t149 t105 (some [.str,.str,.str,.int .i64,.str,.int .i64,.bool]),tm 150 t150 t146 (some [.str,.str,.seq [.str]]),tn 151 t151 t151,tn 152 t152 t152,tn 153 t153 t153,tn 154 t154 t154,tn 155 t155 t155,tn 156 t156 t156,tn 157 t157 t157,tn 158 t158 t158,tn 159 t159 t159,tn 160 t160 t160,tn 161 t161 t161,tn 162 t162 t162,tn 163 t163 t163,tn 164 t164 t164,tn 165 t165 t165,tn 166 t166 t166,tn 167 t167 t167,tn 168 t168 t168,tn 169 t169 t169,tn 170 t170 t170,tn 171 t171 t170,tn 173 t173 t173,tn 174 t174 t174,tn 175 t175 t175,tn 176 t176 t176,tn 177 t177 t177,tn 178 t178 t178,tn 179 t179 t179,tn 180 t180 t180,tn 181 t181 t181,tn 182 t182 t182,tn 183 t183 t183,tn 184 t184 t184,tn 185 t185 t185,tn 186 t186 t186,tn 187 t187 t187,tn 188 t188 t188,tn 189 t189 t189,tn 190 t190 t190,tn 191 t191 t191,tn 192 t192 t192,tn 193 t193 t193,tn 194 t194 t194,tn 195 t195 t195,tn 196 t196 t196,tn 197 t197 t196,tn 198 t198 t198,tn 199 t199 t199,tn 200 t200 t200,tm 201 t201 t200 (some [.int .i64,.int .i64]),tn 202 t202 t202,tn 203 t203 t203,tn 204 t204 t204,tn 205 t205 t205,tn 207 t207 t207,tn 208 t208 t208,tn 209 t209 t209,tn 211 t211 t211,tn 212 t212 t212,tn 214 t214 t214,tn 215 t215 t215,tn 216 t216 t216,tn 217 t217 t217,tn 218 t218 t218,tn 219 t219 t219,tn 220 t220 t220,tn 221 t221 t221,tn 222 t222 t222,tn 223 t223 t223,tn 224 t224 t224,tn 225 t225 t225,tn 226 t226 t226,tn 227 t227 t227,tn 228 t228 t228,tn 229 t229 t229,tn 230 t230 t230,tn 231 t231 t231,tn 232 t232 t231,tn 234 t234 t234,tn 235 t235 t235,tn 236 t236 t236,tn 237 t237 t237,tn 238 t238 t238,tn 239 t239 t239,tn 240 t240 t240,tn 241 t241 t241,tn 242 t242 t242,tn 243 t243 t243,tn 244 t244 t244,tn 245 t245 t244,tn 246 t246 t246,tn 247 t247 t247,tn 248 t248 t248,tn 249 t249 t249,tn 250 t250 t250,tn 251 t251 t251,tn 252 t252 t252,tn 253 t253 t253,tn 254 t254 t254,tn 255 t255 t255,tn 256 t256 t256,tn 257 t257 t257,tn 258 t258 t258,tn 259 t259 t259,tn 260 t260 t260,tn 261 t261 t261,tn 262 t262 t262,tn 263 t263 t263,tn 264 t264 t264,tn 265 t265 t265,tn 266 t266 t266,tn 267 t267 t267,tn 268 t268 t3,tn 270 t270 t270,tn 271 t271 t271,tn 272 t272 t272,tn 274 t274 t274,tn 275 t275 t275,tn 276 t276 t276,tn 277 t277 t277,tn 278 t278 t278,tn 279 t279 t279,tn 280 t280 t280,tn 281 t281 t281,tn 282 t282 t278,tn 283 t283 t283,tn 284 t284 t284,tn 285 t285 t285,tn 286 t286 t286,tn 287 t287 t287,tn 288 t288 t288,tn 289 t289 t289,tn 290 t290 t290,tn 291 t291 t291,tn 292 t292 t292,tn 294 t294 t294,tn 296 t296 t296,tn 297 t297 t297,tn 298 t298 t298,tn 299 t299 t299,tn 300 t300 t299,tn 301 t301 t301,tn 302 t302 t302,tn 303 t303 t302,tn 305 t305 t305,tn 306 t306 t306,tn 307 t307 t307,tn 308 t308 t308,tn 310 t310 t310,tn 312 t312 t312,tn 314 t314 t314,tn 315 t315 t315,tn 316 t316 t316,tn 317 t317 t317,tn 318 t318 t318,tn 319 t319 t319,tn 320 t320 t320,tn 321 t321 t321,tn 322 t322 t322,tn 323 t323 t323,tn 324 t324 t324,tn 325 t325 t324,tn 326 t326 t326,tn 327 t327 t327,tn 328 t328 t327,tn 329 t329 t5,tn 330 t330 t5,tn 331 t331 t331,tn 332 t332 t21,tn 333 t333 t21,tn 334 t334 t334,tn 335 t335 t334]
noncomputable def fns:List (Nat × Func) := [(2,Tryz.f2),(3,Tryz.f3),(4,Tryz.f4),(5,Tryz.f5),(6,Tryz.f6),(7,Tryz.f7),(8,Tryz.f8),(9,Tryz.f9),(10,Tryz.f10),(11,Tryz.f11),(12,Tryz.f12),(13,Tryz.f13),(14,Tryz.f14),(15,Tryz.f15),(16,Tryz.f16),(17,Tryz.f17),(18,Tryz.f18),(19,Tryz.f19),(20,Tryz.f20),(21,Tryz.f21),(22,Tryz.f22),(23,Tryz.f23),(24,Tryz.f24),(25,Tryz.f25),(26,Tryz.f26),(27,Tryz.f27),(28,Tryz.f28),(29,Tryz.f29),(30,Tryz.f30),(31,Tryz.f31),(32,Tryz.f32),(33,Tryz.f33),(34,Tryz.f34),(35,Tryz.f35),(36,Tryz.f36),(37,Tryz.f37),(38,Tryz.f38),(39,Tryz.f39),(40,Tryz.f40),(41,Tryz.f41),(42,Tryz.f42),(43,Tryz.f43),(44,Tryz.f44),(45,Tryz.f45),(46,Tryz.f46),(47,Tryz.f47),(48,Tryz.f48),(49,Tryz.f49),(50,Tryz.f50),(51,Tryz.f51),(52,Tryz.f52),(53,Tryz.f53),(54,Tryz.f54),(55,Tryz.f55),(56,Tryz.f56),(57,Tryz.f57),(58,Tryz.f58),(59,Tryz.f59),(60,Tryz.f60),(61,Tryz.f61),(62,Tryz.f62),(63,Tryz.f63),(64,Tryz.f64),(65,Tryz.f65),(66,Tryz.f66),(67,Tryz.f67),(68,Tryz.f68),(69,Tryz.f69),(70,Tryz.f70),(71,Tryz.f71),(72,Tryz.f72),(73,Tryz.f73),(74,Tryz.f74),(75,Tryz.f75),(76,Tryz.f76),(77,Tryz.f77),(78,Tryz.f78),(79,Tryz.f79),(80,Tryz.f80),(81,Tryz.f81),(82,Tryz.f82),(83,Tryz.f83),(84,Tryz.f84),(85,Tryz.f85),(86,Tryz.f86),(87,Tryz.f87),(88,Tryz.f88),(89,Tryz.f89),(90,Tryz.f90),(91,Tryz.f91),(92,Tryz.f92),(93,Tryz.f93),(94,Tryz.f94),(95,Tryz.f95),(96,Tryz.f96),(97,Tryz.f97),(98,Tryz.f98),(99,Tryz.f99),(100,Tryz.f100),(101,Tryz.f101),(102,Tryz.f102),(103,Tryz.f103),(104,Tryz.f104),(105,Tryz.f105),(106,Tryz.f106),(107,Tryz.f107),(108,Tryz.f108),(109,Tryz.f109),(110,Tryz.f110),(111,Tryz.f111),(112,Tryz.f112),(113,Tryz.f113),(114,Tryz.f114),(115,Tryz.f115),(116,Tryz.f116),(117,Tryz.f117),(118,Tryz.f118),(119,Tryz.f119),(120,Tryz.f120),(121,Tryz.f121),(122,Tryz.f122),(123,Tryz.f123),(124,Tryz.f124),(125,Tryz.f125),(126,Tryz.f126),(127,Tryz.f127),(128,Tryz.f128),(129,Tryz.f129),(130,Tryz.f130),(131,Tryz.f131),(132,Tryz.f132),(133,Tryz.f133),(134,Tryz.f134),(135,Tryz.f135),(136,Tryz.f136),(137,Tryz.f137),(138,Tryz.f138),(139,Tryz.f139),(140,Tryz.f140),(141,Tryz.f141),(142,Tryz.f142),(143,Tryz.f143),(144,Tryz.f144),(145,Tryz.f145),(146,Tryz.f146),(147,Tryz.f147),(148,Tryz.f148),(149,Tryz.f149),(150,Tryz.f150),(151,Tryz.f151),(152,Tryz.f152),(153,Tryz.f153),(154,Tryz.f154),(155,Tryz.f155),(156,Tryz.f156),(157,Tryz.f157),(158,Tryz.f158),(159,Tryz.f159),(160,Tryz.f160),(161,Tryz.f161),(162,Tryz.f162),(163,Tryz.f163),(164,Tryz.f164),(165,Tryz.f165),(166,Tryz.f166),(167,Tryz.f167),(168,Tryz.f168),(169,Tryz.f169),(170,Tryz.f170),(171,Tryz.f171),(172,Tryz.f172),(173,Tryz.f173),(174,Tryz.f174),(175,Tryz.f175),(176,Tryz.f176),(177,Tryz.f177),(178,Tryz.f178),(179,Tryz.f179),(180,Tryz.f180),(181,Tryz.f181),(182,Tryz.f182),(183,Tryz.f183),(184,Tryz.f184),(185,Tryz.f185),(186,Tryz.f186),(187,Tryz.f187),(188,Tryz.f188),(189,Tryz.f189),(190,Tryz.f190),(191,Tryz.f191),(192,Tryz.f192),(193,Tryz.f193),(194,Tryz.f194),(195,Tryz.f195),(196,Tryz.f196),(197,Tryz.f197),(198,Tryz.f198),(199,Tryz.f199),(200,Tryz.f200),(201,Tryz.f201),(202,Tryz.f202),(203,Tryz.f203),(204,Tryz.f204),(205,Tryz.f205),(206,Tryz.f206),(207,Tryz.f207),(208,Tryz.f208),(209,Tryz.f209),(210,Tryz.f210),(211,Tryz.f211),(212,Tryz.f212),(213,Tryz.f213),(214,Tryz.f214),(215,Tryz.f215),(216,Tryz.f216),(217,Tryz.f217),(218,Tryz.f218),(219,Tryz.f219),(220,Tryz.f220),(221,Tryz.f221),(222,Tryz.f222),(223,Tryz.f223),(224,Tryz.f224),(225,Tryz.f225),(226,Tryz.f226),(227,Tryz.f227),(228,Tryz.f228),(229,Tryz.f229),(230,Tryz.f230),(231,Tryz.f231),(232,Tryz.f232),(233,Tryz.f233),(234,Tryz.f234),(235,Tryz.f235),(236,Tryz.f236),(237,Tryz.f237),(238,Tryz.f238),(239,Tryz.f239),(240,Tryz.f240),(241,Tryz.f241),(242,Tryz.f242),(243,Tryz.f243),(244,Tryz.f244),(245,Tryz.f245),(246,Tryz.f246),(247,Tryz.f247),(248,Tryz.f248),(249,Tryz.f249),(250,Tryz.f250),(251,Tryz.f251),(252,Tryz.f252),(253,Tryz.f253),(254,Tryz.f254),(255,Tryz.f255),(256,Tryz.f256),(257,Tryz.f257),(258,Tryz.f258),(259,Tryz.f259),(260,Tryz.f260),(261,Tryz.f261),(262,Tryz.f262),(263,Tryz.f263),(264,Tryz.f264),(265,Tryz.f265),(266,Tryz.f266),(267,Tryz.f267),(268,Tryz.f268),(269,Tryz.f269),(270,Tryz.f270),(271,Tryz.f271),(272,Tryz.f272),(273,Tryz.f273),(274,Tryz.f274),(275,Tryz.f275),(276,Tryz.f276),(279,Tryz.f279),(280,Tryz.f280),(303,Tryz.f303)]
noncomputable def cx:Cx := { P := prog,tab := tab,fns := fns }
noncomputable def tabS13:Tab := []
theorem tabS13_ok:TabOk prog tabS13 := TabOk.nil _
noncomputable def tabS12:Tab := tn 325 t325 t324 :: tn 326 t326 t326 :: tn 327 t327 t327 :: tn 328 t328 t327 :: tn 329 t329 t5 :: tn 330 t330 t5 :: tn 331 t331 t331 :: tn 332 t332 t21 :: tn 333 t333 t21 :: tn 334 t334 t334 :: tn 335 t335 t334 :: tabS13
theorem tabS12_ok:TabOk prog tabS12 := by
 unfold tabS12
 refine TabOk.consR type325 underlying325 (by kernel_rfl) (by kernel_rfl) ?_
 refine TabOk.consR type326 underlying326 (by kernel_rfl) (by kernel_rfl) ?_
 refine TabOk.consR type327 underlying327 (by kernel_rfl) (by kernel_rfl) ?_
 refine TabOk.consR type328 underlying328 (by kernel_rfl) (by kernel_rfl) ?_
 refine TabOk.consR type329 underlying329 (by kernel_rfl) (by kernel_rfl) ?_
 refine TabOk.consR type330 underlying330 (by kernel_rfl) (by kernel_rfl) ?_
 refine TabOk.consR type331 underlying331 (by kernel_rfl) (by kernel_rfl) ?_
 refine TabOk.consR type332 underlying332 (by kernel_rfl) (by kernel_rfl) ?_
 refine TabOk.consR type333 underlying333 (by kernel_rfl) (by kernel_rfl) ?_
 refine TabOk.consR type334 underlying334 (by kernel_rfl) (by kernel_rfl) ?_
 refine TabOk.consR type335 underlying335 (by kernel_rfl) (by kernel_rfl) ?_
 exact tabS13_ok
noncomputable def tabS11:Tab := tn 296 t296 t296 :: tn 297 t297 t297 :: tn 298 t298 t298 :: tn 299 t299 t299 :: tn 300 t300 t299 :: tn 301 t301 t301 :: tn 302 t302 t302 :: tn 303 t303 t302 :: tn 305 t305 t305 :: tn 306 t306 t306 :: tn 307 t307 t307 :: tn 308 t308 t308 :: tn 310 t310 t310 :: tn 312 t312 t312 :: tn 314 t314 t314 :: tn 315 t315 t315 :: tn 316 t316 t316 :: tn 317 t317 t317 :: tn 318 t318 t318 :: tn 319 t319 t319 :: tn 320 t320 t320 :: tn 321 t321 t321 :: tn 322 t322 t322 :: tn 323 t323 t323 :: tn 324 t324 t324 :: tabS12
theorem tabS11_ok:TabOk prog tabS11 := by
 unfold tabS11
 refine TabOk.consR type296 underlying296 (by kernel_rfl) (by kernel_rfl) ?_
 refine TabOk.consR type297 underlying297 (by kernel_rfl) (by kernel_rfl) ?_
 refine TabOk.consR type298 underlying298 (by kernel_rfl) (by kernel_rfl) ?_
 refine TabOk.consR type299 underlying299 (by kernel_rfl) (by kernel_rfl) ?_
 refine TabOk.consR type300 underlying300 (by kernel_rfl) (by kernel_rfl) ?_
 refine TabOk.consR type301 underlying301 (by kernel_rfl) (by kernel_rfl) ?_
 refine TabOk.consR type302 underlying302 (by kernel_rfl) (by kernel_rfl) ?_
 refine TabOk.consR type303 underlying303 (by kernel_rfl) (by kernel_rfl) ?_
 refine TabOk.consR type305 underlying305 (by kernel_rfl) (by kernel_rfl) ?_
 refine TabOk.consR type306 underlying306 (by kernel_rfl) (by kernel_rfl) ?_
 refine TabOk.consR type307 underlying307 (by kernel_rfl) (by kernel_rfl) ?_
 refine TabOk.consR type308 underlying308 (by kernel_rfl) (by kernel_rfl) ?_
 refine TabOk.consR type310 underlying310 (by kernel_rfl) (by kernel_rfl) ?_
 refine TabOk.consR type312 underlying312 (by kernel_rfl) (by kernel_rfl) ?_
 refine TabOk.consR type314 underlying314 (by kernel_rfl) (by kernel_rfl) ?_
 refine TabOk.consR type315 underlying315 (by kernel_rfl) (by kernel_rfl) ?_
 refine TabOk.consR type316 underlying316 (by kernel_rfl) (by kernel_rfl) ?_
 refine TabOk.consR type317 underlying317 (by kernel_rfl) (by kernel_rfl) ?_
 refine TabOk.consR type318 underlying318 (by kernel_rfl) (by kernel_rfl) ?_
 refine TabOk.consR type319 underlying319 (by kernel_rfl) (by kernel_rfl) ?_
 refine TabOk.consR type320 underlying320 (by kernel_rfl) (by kernel_rfl) ?_
 refine TabOk.consR type321 underlying321 (by kernel_rfl) (by kernel_rfl) ?_
 refine TabOk.consR type322 underlying322 (by kernel_rfl) (by kernel_rfl) ?_
 refine TabOk.consR type323 underlying323 (by kernel_rfl) (by kernel_rfl) ?_
 refine TabOk.consR type324 underlying324 (by kernel_rfl) (by kernel_rfl) ?_
 exact tabS12_ok
noncomputable def tabS10:Tab := tn 267 t267 t267 :: tn 268 t268 t3 :: tn 270 t270 t270 :: tn 271 t271 t271 :: tn 272 t272 t272 :: tn 274 t274 t274 :: tn 275 t275 t275 :: tn 276 t276 t276 :: tn 277 t277 t277 :: tn 278 t278 t278 :: tn 279 t279 t279 :: tn 280 t280 t280 :: tn 281 t281 t281 :: tn 282 t282 t278 :: tn 283 t283 t283 :: tn 284 t284 t284 :: tn 285 t285 t285 :: tn 286 t286 t286 :: tn 287 t287 t287 :: tn 288 t288 t288 :: tn 289 t289 t289 :: tn 290 t290 t290 :: tn 291 t291 t291 :: tn 292 t292 t292 :: tn 294 t294 t294 :: tabS11
theorem tabS10_ok:TabOk prog tabS10 := by
 unfold tabS10
 refine TabOk.consR type267 underlying267 (by kernel_rfl) (by kernel_rfl) ?_
 refine TabOk.consR type268 underlying268 (by kernel_rfl) (by kernel_rfl) ?_
 refine TabOk.consR type270 underlying270 (by kernel_rfl) (by kernel_rfl) ?_
 refine TabOk.consR type271 underlying271 (by kernel_rfl) (by kernel_rfl) ?_
 refine TabOk.consR type272 underlying272 (by kernel_rfl) (by kernel_rfl) ?_
 refine TabOk.consR type274 underlying274 (by kernel_rfl) (by kernel_rfl) ?_
 refine TabOk.consR type275 underlying275 (by kernel_rfl) (by kernel_rfl) ?_
 refine TabOk.consR type276 underlying276 (by kernel_rfl) (by kernel_rfl) ?_
 refine TabOk.consR type277 underlying277 (by kernel_rfl) (by kernel_rfl) ?_
 refine TabOk.consR type278 underlying278 (by kernel_rfl) (by kernel_rfl) ?_
 refine TabOk.consR type279 underlying279 (by kernel_rfl) (by kernel_rfl) ?_
 refine TabOk.consR type280 underlying280 (by kernel_rfl) (by kernel_rfl) ?_
 refine TabOk.consR type281 underlying281 (by kernel_rfl) (by kernel_rfl) ?_
 refine TabOk.consR type282 underlying282 (by kernel_rfl) (by kernel_rfl) ?_
 refine TabOk.consR type283 underlying283 (by kernel_rfl) (by kernel_rfl) ?_
 refine TabOk.consR type284 underlying284 (by kernel_rfl) (by kernel_rfl) ?_
 refine TabOk.consR type285 underlying285 (by kernel_rfl) (by kernel_rfl) ?_
 refine TabOk.consR type286 underlying286 (by kernel_rfl) (by kernel_rfl) ?_
 refine TabOk.consR type287 underlying287 (by kernel_rfl) (by kernel_rfl) ?_
 refine TabOk.consR type288 underlying288 (by kernel_rfl) (by kernel_rfl) ?_
 refine TabOk.consR type289 underlying289 (by kernel_rfl) (by kernel_rfl) ?_
 refine TabOk.consR type290 underlying290 (by kernel_rfl) (by kernel_rfl) ?_
 refine TabOk.consR type291 underlying291 (by kernel_rfl) (by kernel_rfl) ?_
 refine TabOk.consR type292 underlying292 (by kernel_rfl) (by kernel_rfl) ?_
 refine TabOk.consR type294 underlying294 (by kernel_rfl) (by kernel_rfl) ?_
 exact tabS11_ok
noncomputable def tabS9:Tab := tn 242 t242 t242 :: tn 243 t243 t243 :: tn 244 t244 t244 :: tn 245 t245 t244 :: tn 246 t246 t246 :: tn 247 t247 t247 :: tn 248 t248 t248 :: tn 249 t249 t249 :: tn 250 t250 t250 :: tn 251 t251 t251 :: tn 252 t252 t252 :: tn 253 t253 t253 :: tn 254 t254 t254 :: tn 255 t255 t255 :: tn 256 t256 t256 :: tn 257 t257 t257 :: tn 258 t258 t258 :: tn 259 t259 t259 :: tn 260 t260 t260 :: tn 261 t261 t261 :: tn 262 t262 t262 :: tn 263 t263 t263 :: tn 264 t264 t264 :: tn 265 t265 t265 :: tn 266 t266 t266 :: tabS10
theorem tabS9_ok:TabOk prog tabS9 := by
 unfold tabS9
 refine TabOk.consR type242 underlying242 (by kernel_rfl) (by kernel_rfl) ?_
 refine TabOk.consR type243 underlying243 (by kernel_rfl) (by kernel_rfl) ?_
 refine TabOk.consR type244 underlying244 (by kernel_rfl) (by kernel_rfl) ?_
 refine TabOk.consR type245 underlying245 (by kernel_rfl) (by kernel_rfl) ?_
 refine TabOk.consR type246 underlying246 (by kernel_rfl) (by kernel_rfl) ?_
 refine TabOk.consR type247 underlying247 (by kernel_rfl) (by kernel_rfl) ?_
 refine TabOk.consR type248 underlying248 (by kernel_rfl) (by kernel_rfl) ?_
 refine TabOk.consR type249 underlying249 (by kernel_rfl) (by kernel_rfl) ?_
 refine TabOk.consR type250 underlying250 (by kernel_rfl) (by kernel_rfl) ?_
 refine TabOk.consR type251 underlying251 (by kernel_rfl) (by kernel_rfl) ?_
 refine TabOk.consR type252 underlying252 (by kernel_rfl) (by kernel_rfl) ?_
 refine TabOk.consR type253 underlying253 (by kernel_rfl) (by kernel_rfl) ?_
 refine TabOk.consR type254 underlying254 (by kernel_rfl) (by kernel_rfl) ?_
 refine TabOk.consR type255 underlying255 (by kernel_rfl) (by kernel_rfl) ?_
 refine TabOk.consR type256 underlying256 (by kernel_rfl) (by kernel_rfl) ?_
 refine TabOk.consR type257 underlying257 (by kernel_rfl) (by kernel_rfl) ?_
 refine TabOk.consR type258 underlying258 (by kernel_rfl) (by kernel_rfl) ?_
 refine TabOk.consR type259 underlying259 (by kernel_rfl) (by kernel_rfl) ?_
 refine TabOk.consR type260 underlying260 (by kernel_rfl) (by kernel_rfl) ?_
 refine TabOk.consR type261 underlying261 (by kernel_rfl) (by kernel_rfl) ?_
 refine TabOk.consR type262 underlying262 (by kernel_rfl) (by kernel_rfl) ?_
 refine TabOk.consR type263 underlying263 (by kernel_rfl) (by kernel_rfl) ?_
 refine TabOk.consR type264 underlying264 (by kernel_rfl) (by kernel_rfl) ?_
 refine TabOk.consR type265 underlying265 (by kernel_rfl) (by kernel_rfl) ?_
 refine TabOk.consR type266 underlying266 (by kernel_rfl) (by kernel_rfl) ?_
 exact tabS10_ok
noncomputable def tabS8:Tab := tn 216 t216 t216 :: tn 217 t217 t217 :: tn 218 t218 t218 :: tn 219 t219 t219 :: tn 220 t220 t220 :: tn 221 t221 t221 :: tn 222 t222 t222 :: tn 223 t223 t223 :: tn 224 t224 t224 :: tn 225 t225 t225 :: tn 226 t226 t226 :: tn 227 t227 t227 :: tn 228 t228 t228 :: tn 229 t229 t229 :: tn 230 t230 t230 :: tn 231 t231 t231 :: tn 232 t232 t231 :: tn 234 t234 t234 :: tn 235 t235 t235 :: tn 236 t236 t236 :: tn 237 t237 t237 :: tn 238 t238 t238 :: tn 239 t239 t239 :: tn 240 t240 t240 :: tn 241 t241 t241 :: tabS9
theorem tabS8_ok:TabOk prog tabS8 := by
 unfold tabS8
 refine TabOk.consR type216 underlying216 (by kernel_rfl) (by kernel_rfl) ?_
 refine TabOk.consR type217 underlying217 (by kernel_rfl) (by kernel_rfl) ?_
 refine TabOk.consR type218 underlying218 (by kernel_rfl) (by kernel_rfl) ?_
 refine TabOk.consR type219 underlying219 (by kernel_rfl) (by kernel_rfl) ?_
 refine TabOk.consR type220 underlying220 (by kernel_rfl) (by kernel_rfl) ?_
 refine TabOk.consR type221 underlying221 (by kernel_rfl) (by kernel_rfl) ?_
 refine TabOk.consR type222 underlying222 (by kernel_rfl) (by kernel_rfl) ?_
 refine TabOk.consR type223 underlying223 (by kernel_rfl) (by kernel_rfl) ?_
 refine TabOk.consR type224 underlying224 (by kernel_rfl) (by kernel_rfl) ?_
 refine TabOk.consR type225 underlying225 (by kernel_rfl) (by kernel_rfl) ?_
 refine TabOk.consR type226 underlying226 (by kernel_rfl) (by kernel_rfl) ?_
 refine TabOk.consR type227 underlying227 (by kernel_rfl) (by kernel_rfl) ?_
 refine TabOk.consR type228 underlying228 (by kernel_rfl) (by kernel_rfl) ?_
 refine TabOk.consR type229 underlying229 (by kernel_rfl) (by kernel_rfl) ?_
 refine TabOk.consR type230 underlying230 (by kernel_rfl) (by kernel_rfl) ?_
 refine TabOk.consR type231 underlying231 (by kernel_rfl) (by kernel_rfl) ?_
 refine TabOk.consR type232 underlying232 (by kernel_rfl) (by kernel_rfl) ?_
 refine TabOk.consR type234 underlying234 (by kernel_rfl) (by kernel_rfl) ?_
 refine TabOk.consR type235 underlying235 (by kernel_rfl) (by kernel_rfl) ?_
 refine TabOk.consR type236 underlying236 (by kernel_rfl) (by kernel_rfl) ?_
 refine TabOk.consR type237 underlying237 (by kernel_rfl) (by kernel_rfl) ?_
 refine TabOk.consR type238 underlying238 (by kernel_rfl) (by kernel_rfl) ?_
 refine TabOk.consR type239 underlying239 (by kernel_rfl) (by kernel_rfl) ?_
 refine TabOk.consR type240 underlying240 (by kernel_rfl) (by kernel_rfl) ?_
 refine TabOk.consR type241 underlying241 (by kernel_rfl) (by kernel_rfl) ?_
 exact tabS9_ok
noncomputable def tabS7:Tab := tn 188 t188 t188 :: tn 189 t189 t189 :: tn 190 t190 t190 :: tn 191 t191 t191 :: tn 192 t192 t192 :: tn 193 t193 t193 :: tn 194 t194 t194 :: tn 195 t195 t195 :: tn 196 t196 t196 :: tn 197 t197 t196 :: tn 198 t198 t198 :: tn 199 t199 t199 :: tn 200 t200 t200 :: tm 201 t201 t200 (some [.int .i64,.int .i64]) :: tn 202 t202 t202 :: tn 203 t203 t203 :: tn 204 t204 t204 :: tn 205 t205 t205 :: tn 207 t207 t207 :: tn 208 t208 t208 :: tn 209 t209 t209 :: tn 211 t211 t211 :: tn 212 t212 t212 :: tn 214 t214 t214 :: tn 215 t215 t215 :: tabS8
theorem tabS7_ok:TabOk prog tabS7 := by
 unfold tabS7
 refine TabOk.consR type188 underlying188 (by kernel_rfl) (by kernel_rfl) ?_
 refine TabOk.consR type189 underlying189 (by kernel_rfl) (by kernel_rfl) ?_
 refine TabOk.consR type190 underlying190 (by kernel_rfl) (by kernel_rfl) ?_
 refine TabOk.consR type191 underlying191 (by kernel_rfl) (by kernel_rfl) ?_
 refine TabOk.consR type192 underlying192 (by kernel_rfl) (by kernel_rfl) ?_
 refine TabOk.consR type193 underlying193 (by kernel_rfl) (by kernel_rfl) ?_
 refine TabOk.consR type194 underlying194 (by kernel_rfl) (by kernel_rfl) ?_
 refine TabOk.consR type195 underlying195 (by kernel_rfl) (by kernel_rfl) ?_
 refine TabOk.consR type196 underlying196 (by kernel_rfl) (by kernel_rfl) ?_
 refine TabOk.consR type197 underlying197 (by kernel_rfl) (by kernel_rfl) ?_
 refine TabOk.consR type198 underlying198 (by kernel_rfl) (by kernel_rfl) ?_
 refine TabOk.consR type199 underlying199 (by kernel_rfl) (by kernel_rfl) ?_
 refine TabOk.consR type200 underlying200 (by kernel_rfl) (by kernel_rfl) ?_
 refine TabOk.consR type201 underlying201 (by kernel_rfl) (by kernel_rfl) ?_
 refine TabOk.consR type202 underlying202 (by kernel_rfl) (by kernel_rfl) ?_
 refine TabOk.consR type203 underlying203 (by kernel_rfl) (by kernel_rfl) ?_
 refine TabOk.consR type204 underlying204 (by kernel_rfl) (by kernel_rfl) ?_
 refine TabOk.consR type205 underlying205 (by kernel_rfl) (by kernel_rfl) ?_
 refine TabOk.consR type207 underlying207 (by kernel_rfl) (by kernel_rfl) ?_
 refine TabOk.consR type208 underlying208 (by kernel_rfl) (by kernel_rfl) ?_
 refine TabOk.consR type209 underlying209 (by kernel_rfl) (by kernel_rfl) ?_
 refine TabOk.consR type211 underlying211 (by kernel_rfl) (by kernel_rfl) ?_
 refine TabOk.consR type212 underlying212 (by kernel_rfl) (by kernel_rfl) ?_
 refine TabOk.consR type214 underlying214 (by kernel_rfl) (by kernel_rfl) ?_
 refine TabOk.consR type215 underlying215 (by kernel_rfl) (by kernel_rfl) ?_
 exact tabS8_ok
noncomputable def tabS6:Tab := tn 162 t162 t162 :: tn 163 t163 t163 :: tn 164 t164 t164 :: tn 165 t165 t165 :: tn 166 t166 t166 :: tn 167 t167 t167 :: tn 168 t168 t168 :: tn 169 t169 t169 :: tn 170 t170 t170 :: tn 171 t171 t170 :: tn 173 t173 t173 :: tn 174 t174 t174 :: tn 175 t175 t175 :: tn 176 t176 t176 :: tn 177 t177 t177 :: tn 178 t178 t178 :: tn 179 t179 t179 :: tn 180 t180 t180 :: tn 181 t181 t181 :: tn 182 t182 t182 :: tn 183 t183 t183 :: tn 184 t184 t184 :: tn 185 t185 t185 :: tn 186 t186 t186 :: tn 187 t187 t187 :: tabS7
theorem tabS6_ok:TabOk prog tabS6 := by
 unfold tabS6
 refine TabOk.consR type162 underlying162 (by kernel_rfl) (by kernel_rfl) ?_
 refine TabOk.consR type163 underlying163 (by kernel_rfl) (by kernel_rfl) ?_
 refine TabOk.consR type164 underlying164 (by kernel_rfl) (by kernel_rfl) ?_
 refine TabOk.consR type165 underlying165 (by kernel_rfl) (by kernel_rfl) ?_
 refine TabOk.consR type166 underlying166 (by kernel_rfl) (by kernel_rfl) ?_
 refine TabOk.consR type167 underlying167 (by kernel_rfl) (by kernel_rfl) ?_
 refine TabOk.consR type168 underlying168 (by kernel_rfl) (by kernel_rfl) ?_
 refine TabOk.consR type169 underlying169 (by kernel_rfl) (by kernel_rfl) ?_
 refine TabOk.consR type170 underlying170 (by kernel_rfl) (by kernel_rfl) ?_
 refine TabOk.consR type171 underlying171 (by kernel_rfl) (by kernel_rfl) ?_
 refine TabOk.consR type173 underlying173 (by kernel_rfl) (by kernel_rfl) ?_
 refine TabOk.consR type174 underlying174 (by kernel_rfl) (by kernel_rfl) ?_
 refine TabOk.consR type175 underlying175 (by kernel_rfl) (by kernel_rfl) ?_
 refine TabOk.consR type176 underlying176 (by kernel_rfl) (by kernel_rfl) ?_
 refine TabOk.consR type177 underlying177 (by kernel_rfl) (by kernel_rfl) ?_
 refine TabOk.consR type178 underlying178 (by kernel_rfl) (by kernel_rfl) ?_
 refine TabOk.consR type179 underlying179 (by kernel_rfl) (by kernel_rfl) ?_
 refine TabOk.consR type180 underlying180 (by kernel_rfl) (by kernel_rfl) ?_
 refine TabOk.consR type181 underlying181 (by kernel_rfl) (by kernel_rfl) ?_
 refine TabOk.consR type182 underlying182 (by kernel_rfl) (by kernel_rfl) ?_
 refine TabOk.consR type183 underlying183 (by kernel_rfl) (by kernel_rfl) ?_
 refine TabOk.consR type184 underlying184 (by kernel_rfl) (by kernel_rfl) ?_
 refine TabOk.consR type185 underlying185 (by kernel_rfl) (by kernel_rfl) ?_
 refine TabOk.consR type186 underlying186 (by kernel_rfl) (by kernel_rfl) ?_
 refine TabOk.consR type187 underlying187 (by kernel_rfl) (by kernel_rfl) ?_
 exact tabS7_ok
noncomputable def tabS5:Tab := tn 136 t136 t136 :: tn 137 t137 t137 :: tn 139 t139 t139 :: tn 140 t140 t140 :: tn 141 t141 t141 :: tn 142 t142 t142 :: tn 143 t143 t143 :: tn 144 t144 t144 :: tn 145 t145 t145 :: tn 146 t146 t146 :: tm 147 t147 t146 (some [.str,.str,.seq [.str]]) :: tn 148 t148 t148 :: tm 149 t149 t105 (some [.str,.str,.str,.int .i64,.str,.int .i64,.bool]) :: tm 150 t150 t146 (some [.str,.str,.seq [.str]]) :: tn 151 t151 t151 :: tn 152 t152 t152 :: tn 153 t153 t153 :: tn 154 t154 t154 :: tn 155 t155 t155 :: tn 156 t156 t156 :: tn 157 t157 t157 :: tn 158 t158 t158 :: tn 159 t159 t159 :: tn 160 t160 t160 :: tn 161 t161 t161 :: tabS6
theorem tabS5_ok:TabOk prog tabS5 := by
 unfold tabS5
 refine TabOk.consR type136 underlying136 (by kernel_rfl) (by kernel_rfl) ?_
 refine TabOk.consR type137 underlying137 (by kernel_rfl) (by kernel_rfl) ?_
 refine TabOk.consR type139 underlying139 (by kernel_rfl) (by kernel_rfl) ?_
 refine TabOk.consR type140 underlying140 (by kernel_rfl) (by kernel_rfl) ?_
 refine TabOk.consR type141 underlying141 (by kernel_rfl) (by kernel_rfl) ?_
 refine TabOk.consR type142 underlying142 (by kernel_rfl) (by kernel_rfl) ?_
 refine TabOk.consR type143 underlying143 (by kernel_rfl) (by kernel_rfl) ?_
 refine TabOk.consR type144 underlying144 (by kernel_rfl) (by kernel_rfl) ?_
 refine TabOk.consR type145 underlying145 (by kernel_rfl) (by kernel_rfl) ?_
 refine TabOk.consR type146 underlying146 (by kernel_rfl) (by kernel_rfl) ?_
 refine TabOk.consR type147 underlying147 (by kernel_rfl) (by kernel_rfl) ?_
 refine TabOk.consR type148 underlying148 (by kernel_rfl) (by kernel_rfl) ?_
 refine TabOk.consR type149 underlying149 (by kernel_rfl) (by kernel_rfl) ?_
 refine TabOk.consR type150 underlying150 (by kernel_rfl) (by kernel_rfl) ?_
 refine TabOk.consR type151 underlying151 (by kernel_rfl) (by kernel_rfl) ?_
 refine TabOk.consR type152 underlying152 (by kernel_rfl) (by kernel_rfl) ?_
 refine TabOk.consR type153 underlying153 (by kernel_rfl) (by kernel_rfl) ?_
 refine TabOk.consR type154 underlying154 (by kernel_rfl) (by kernel_rfl) ?_
 refine TabOk.consR type155 underlying155 (by kernel_rfl) (by kernel_rfl) ?_
 refine TabOk.consR type156 underlying156 (by kernel_rfl) (by kernel_rfl) ?_
 refine TabOk.consR type157 underlying157 (by kernel_rfl) (by kernel_rfl) ?_
 refine TabOk.consR type158 underlying158 (by kernel_rfl) (by kernel_rfl) ?_
 refine TabOk.consR type159 underlying159 (by kernel_rfl) (by kernel_rfl) ?_
 refine TabOk.consR type160 underlying160 (by kernel_rfl) (by kernel_rfl) ?_
 refine TabOk.consR type161 underlying161 (by kernel_rfl) (by kernel_rfl) ?_
 exact tabS6_ok
noncomputable def tabS4:Tab := tn 107 t107 t107 :: tn 108 t108 t108 :: tn 109 t109 t109 :: tm 110 t110 t95 (some [.str,.str,.str,.int .i64,.int .i64,.int .i64,.int .i64,.str,.int .i64,.str,.int .i64]) :: tn 112 t112 t112 :: tn 113 t113 t113 :: tn 114 t114 t114 :: tn 115 t115 t115 :: tm 116 t116 t115 (some [.str,.str,.int .i64,.str]) :: tn 117 t117 t117 :: tn 118 t118 t118 :: tn 119 t119 t119 :: tn 120 t120 t120 :: tn 121 t121 t121 :: tn 122 t122 t122 :: tn 123 t123 t123 :: tm 124 t124 t123 (some [.str,.int .i64,.int .i64]) :: tm 125 t125 t123 (some [.str,.int .i64,.int .i64]) :: tn 127 t127 t127 :: tn 129 t129 t129 :: tn 130 t130 t130 :: tn 131 t131 t131 :: tn 132 t132 t132 :: tn 133 t133 t133 :: tn 134 t134 t134 :: tabS5
theorem tabS4_ok:TabOk prog tabS4 := by
 unfold tabS4
 refine TabOk.consR type107 underlying107 (by kernel_rfl) (by kernel_rfl) ?_
 refine TabOk.consR type108 underlying108 (by kernel_rfl) (by kernel_rfl) ?_
 refine TabOk.consR type109 underlying109 (by kernel_rfl) (by kernel_rfl) ?_
 refine TabOk.consR type110 underlying110 (by kernel_rfl) (by kernel_rfl) ?_
 refine TabOk.consR type112 underlying112 (by kernel_rfl) (by kernel_rfl) ?_
 refine TabOk.consR type113 underlying113 (by kernel_rfl) (by kernel_rfl) ?_
 refine TabOk.consR type114 underlying114 (by kernel_rfl) (by kernel_rfl) ?_
 refine TabOk.consR type115 underlying115 (by kernel_rfl) (by kernel_rfl) ?_
 refine TabOk.consR type116 underlying116 (by kernel_rfl) (by kernel_rfl) ?_
 refine TabOk.consR type117 underlying117 (by kernel_rfl) (by kernel_rfl) ?_
 refine TabOk.consR type118 underlying118 (by kernel_rfl) (by kernel_rfl) ?_
 refine TabOk.consR type119 underlying119 (by kernel_rfl) (by kernel_rfl) ?_
 refine TabOk.consR type120 underlying120 (by kernel_rfl) (by kernel_rfl) ?_
 refine TabOk.consR type121 underlying121 (by kernel_rfl) (by kernel_rfl) ?_
 refine TabOk.consR type122 underlying122 (by kernel_rfl) (by kernel_rfl) ?_
 refine TabOk.consR type123 underlying123 (by kernel_rfl) (by kernel_rfl) ?_
 refine TabOk.consR type124 underlying124 (by kernel_rfl) (by kernel_rfl) ?_
 refine TabOk.consR type125 underlying125 (by kernel_rfl) (by kernel_rfl) ?_
 refine TabOk.consR type127 underlying127 (by kernel_rfl) (by kernel_rfl) ?_
 refine TabOk.consR type129 underlying129 (by kernel_rfl) (by kernel_rfl) ?_
 refine TabOk.consR type130 underlying130 (by kernel_rfl) (by kernel_rfl) ?_
 refine TabOk.consR type131 underlying131 (by kernel_rfl) (by kernel_rfl) ?_
 refine TabOk.consR type132 underlying132 (by kernel_rfl) (by kernel_rfl) ?_
 refine TabOk.consR type133 underlying133 (by kernel_rfl) (by kernel_rfl) ?_
 refine TabOk.consR type134 underlying134 (by kernel_rfl) (by kernel_rfl) ?_
 exact tabS5_ok
noncomputable def tabS3:Tab := tn 80 t80 t80 :: tn 82 t82 t82 :: tn 83 t83 t83 :: tn 84 t84 t84 :: tn 85 t85 t85 :: tn 86 t86 t86 :: tn 87 t87 t87 :: tn 88 t88 t88 :: tn 89 t89 t89 :: tm 90 t90 t90 (some [.str,.str]) :: tn 91 t91 t91 :: tn 92 t92 t92 :: tn 93 t93 t92 :: tn 94 t94 t94 :: tn 95 t95 t95 :: tm 96 t96 t95 (some [.str,.str,.str,.int .i64,.int .i64,.int .i64,.int .i64,.str,.int .i64,.str,.int .i64]) :: tn 97 t97 t97 :: tn 98 t98 t98 :: tn 99 t99 t99 :: tn 100 t100 t100 :: tm 101 t101 t100 (some [.int .i64,.int .i64]) :: tn 103 t103 t103 :: tn 104 t104 t104 :: tn 105 t105 t105 :: tm 106 t106 t105 (some [.str,.str,.str,.int .i64,.str,.int .i64,.bool]) :: tabS4
theorem tabS3_ok:TabOk prog tabS3 := by
 unfold tabS3
 refine TabOk.consR type80 underlying80 (by kernel_rfl) (by kernel_rfl) ?_
 refine TabOk.consR type82 underlying82 (by kernel_rfl) (by kernel_rfl) ?_
 refine TabOk.consR type83 underlying83 (by kernel_rfl) (by kernel_rfl) ?_
 refine TabOk.consR type84 underlying84 (by kernel_rfl) (by kernel_rfl) ?_
 refine TabOk.consR type85 underlying85 (by kernel_rfl) (by kernel_rfl) ?_
 refine TabOk.consR type86 underlying86 (by kernel_rfl) (by kernel_rfl) ?_
 refine TabOk.consR type87 underlying87 (by kernel_rfl) (by kernel_rfl) ?_
 refine TabOk.consR type88 underlying88 (by kernel_rfl) (by kernel_rfl) ?_
 refine TabOk.consR type89 underlying89 (by kernel_rfl) (by kernel_rfl) ?_
 refine TabOk.consR type90 underlying90 (by kernel_rfl) (by kernel_rfl) ?_
 refine TabOk.consR type91 underlying91 (by kernel_rfl) (by kernel_rfl) ?_
 refine TabOk.consR type92 underlying92 (by kernel_rfl) (by kernel_rfl) ?_
 refine TabOk.consR type93 underlying93 (by kernel_rfl) (by kernel_rfl) ?_
 refine TabOk.consR type94 underlying94 (by kernel_rfl) (by kernel_rfl) ?_
 refine TabOk.consR type95 underlying95 (by kernel_rfl) (by kernel_rfl) ?_
 refine TabOk.consR type96 underlying96 (by kernel_rfl) (by kernel_rfl) ?_
 refine TabOk.consR type97 underlying97 (by kernel_rfl) (by kernel_rfl) ?_
 refine TabOk.consR type98 underlying98 (by kernel_rfl) (by kernel_rfl) ?_
 refine TabOk.consR type99 underlying99 (by kernel_rfl) (by kernel_rfl) ?_
 refine TabOk.consR type100 underlying100 (by kernel_rfl) (by kernel_rfl) ?_
 refine TabOk.consR type101 underlying101 (by kernel_rfl) (by kernel_rfl) ?_
 refine TabOk.consR type103 underlying103 (by kernel_rfl) (by kernel_rfl) ?_
 refine TabOk.consR type104 underlying104 (by kernel_rfl) (by kernel_rfl) ?_
 refine TabOk.consR type105 underlying105 (by kernel_rfl) (by kernel_rfl) ?_
 refine TabOk.consR type106 underlying106 (by kernel_rfl) (by kernel_rfl) ?_
 exact tabS4_ok
noncomputable def tabS2:Tab := tm 51 t51 t3 (some [.int .i64]) :: tn 52 t52 t52 :: tn 53 t53 t53 :: tn 54 t54 t54 :: tn 55 t55 t55 :: tn 56 t56 t56 :: tn 57 t57 t57 :: tn 58 t58 t58 :: tn 59 t59 t59 :: tn 60 t60 t60 :: tn 61 t61 t61 :: tn 62 t62 t62 :: tn 63 t63 t63 :: tn 65 t65 t65 :: tn 66 t66 t66 :: tn 67 t67 t67 :: tn 68 t68 t68 :: tn 70 t70 t70 :: tn 71 t71 t71 :: tn 72 t72 t72 :: tn 73 t73 t73 :: tn 74 t74 t74 :: tn 76 t76 t76 :: tn 77 t77 t77 :: tn 79 t79 t79 :: tabS3
theorem tabS2_ok:TabOk prog tabS2 := by
 unfold tabS2
 refine TabOk.consR type51 underlying51 (by kernel_rfl) (by kernel_rfl) ?_
 refine TabOk.consR type52 underlying52 (by kernel_rfl) (by kernel_rfl) ?_
 refine TabOk.consR type53 underlying53 (by kernel_rfl) (by kernel_rfl) ?_
 refine TabOk.consR type54 underlying54 (by kernel_rfl) (by kernel_rfl) ?_
 refine TabOk.consR type55 underlying55 (by kernel_rfl) (by kernel_rfl) ?_
 refine TabOk.consR type56 underlying56 (by kernel_rfl) (by kernel_rfl) ?_
 refine TabOk.consR type57 underlying57 (by kernel_rfl) (by kernel_rfl) ?_
 refine TabOk.consR type58 underlying58 (by kernel_rfl) (by kernel_rfl) ?_
 refine TabOk.consR type59 underlying59 (by kernel_rfl) (by kernel_rfl) ?_
 refine TabOk.consR type60 underlying60 (by kernel_rfl) (by kernel_rfl) ?_
 refine TabOk.consR type61 underlying61 (by kernel_rfl) (by kernel_rfl) ?_
 refine TabOk.consR type62 underlying62 (by kernel_rfl) (by kernel_rfl) ?_
 refine TabOk.consR type63 underlying63 (by kernel_rfl) (by kernel_rfl) ?_
 refine TabOk.consR type65 underlying65 (by kernel_rfl) (by kernel_rfl) ?_
 refine TabOk.consR type66 underlying66 (by kernel_rfl) (by kernel_rfl) ?_
 refine TabOk.consR type67 underlying67 (by kernel_rfl) (by kernel_rfl) ?_
 refine TabOk.consR type68 underlying68 (by kernel_rfl) (by kernel_rfl) ?_
 refine TabOk.consR type70 underlying70 (by kernel_rfl) (by kernel_rfl) ?_
 refine TabOk.consR type71 underlying71 (by kernel_rfl) (by kernel_rfl) ?_
 refine TabOk.consR type72 underlying72 (by kernel_rfl) (by kernel_rfl) ?_
 refine TabOk.consR type73 underlying73 (by kernel_rfl) (by kernel_rfl) ?_
 refine TabOk.consR type74 underlying74 (by kernel_rfl) (by kernel_rfl) ?_
 refine TabOk.consR type76 underlying76 (by kernel_rfl) (by kernel_rfl) ?_
 refine TabOk.consR type77 underlying77 (by kernel_rfl) (by kernel_rfl) ?_
 refine TabOk.consR type79 underlying79 (by kernel_rfl) (by kernel_rfl) ?_
 exact tabS3_ok
noncomputable def tabS1:Tab := tn 26 t26 t26 :: tn 27 t27 t27 :: tn 28 t28 t28 :: tn 29 t29 t29 :: tn 30 t30 t30 :: tn 31 t31 t30 :: tn 32 t32 t32 :: tn 33 t33 t32 :: tn 34 t34 t34 :: tm 35 t35 t34 (some [.int .i64,.str,.str,.str,.str,.str,.int .i64,.int .i64,.str,.int .i64,.str,.seq [.str]]) :: tn 36 t36 t36 :: tn 37 t37 t37 :: tn 38 t38 t37 :: tn 39 t39 t39 :: tn 40 t40 t40 :: tn 41 t41 t41 :: tn 42 t42 t42 :: tn 43 t43 t43 :: tn 44 t44 t43 :: tn 45 t45 t45 :: tn 46 t46 t46 :: tn 47 t47 t47 :: tn 48 t48 t48 :: tm 49 t49 t34 (some [.int .i64,.str,.str,.str,.str,.str,.int .i64,.int .i64,.str,.int .i64,.str,.seq [.str]]) :: tn 50 t50 t50 :: tabS2
theorem tabS1_ok:TabOk prog tabS1 := by
 unfold tabS1
 refine TabOk.consR type26 underlying26 (by kernel_rfl) (by kernel_rfl) ?_
 refine TabOk.consR type27 underlying27 (by kernel_rfl) (by kernel_rfl) ?_
 refine TabOk.consR type28 underlying28 (by kernel_rfl) (by kernel_rfl) ?_
 refine TabOk.consR type29 underlying29 (by kernel_rfl) (by kernel_rfl) ?_
 refine TabOk.consR type30 underlying30 (by kernel_rfl) (by kernel_rfl) ?_
 refine TabOk.consR type31 underlying31 (by kernel_rfl) (by kernel_rfl) ?_
 refine TabOk.consR type32 underlying32 (by kernel_rfl) (by kernel_rfl) ?_
 refine TabOk.consR type33 underlying33 (by kernel_rfl) (by kernel_rfl) ?_
 refine TabOk.consR type34 underlying34 (by kernel_rfl) (by kernel_rfl) ?_
 refine TabOk.consR type35 underlying35 (by kernel_rfl) (by kernel_rfl) ?_
 refine TabOk.consR type36 underlying36 (by kernel_rfl) (by kernel_rfl) ?_
 refine TabOk.consR type37 underlying37 (by kernel_rfl) (by kernel_rfl) ?_
 refine TabOk.consR type38 underlying38 (by kernel_rfl) (by kernel_rfl) ?_
 refine TabOk.consR type39 underlying39 (by kernel_rfl) (by kernel_rfl) ?_
 refine TabOk.consR type40 underlying40 (by kernel_rfl) (by kernel_rfl) ?_
 refine TabOk.consR type41 underlying41 (by kernel_rfl) (by kernel_rfl) ?_
 refine TabOk.consR type42 underlying42 (by kernel_rfl) (by kernel_rfl) ?_
 refine TabOk.consR type43 underlying43 (by kernel_rfl) (by kernel_rfl) ?_
 refine TabOk.consR type44 underlying44 (by kernel_rfl) (by kernel_rfl) ?_
 refine TabOk.consR type45 underlying45 (by kernel_rfl) (by kernel_rfl) ?_
 refine TabOk.consR type46 underlying46 (by kernel_rfl) (by kernel_rfl) ?_
 refine TabOk.consR type47 underlying47 (by kernel_rfl) (by kernel_rfl) ?_
 refine TabOk.consR type48 underlying48 (by kernel_rfl) (by kernel_rfl) ?_
 refine TabOk.consR type49 underlying49 (by kernel_rfl) (by kernel_rfl) ?_
 refine TabOk.consR type50 underlying50 (by kernel_rfl) (by kernel_rfl) ?_
 exact tabS2_ok
noncomputable def tabS0:Tab := tn 1 t1 t1 :: tn 2 t2 t2 :: tm 3 t3 t3 (some [.int .i64]) :: tn 4 t4 t4 :: tm 5 t5 t5 (some [.int .u8]) :: tn 6 t6 t5 :: tn 7 t7 t7 :: tn 8 t8 t7 :: tm 9 t9 t9 (some [.str]) :: tn 10 t10 t9 :: tn 11 t11 t9 :: tn 12 t12 t12 :: tn 13 t13 t13 :: tn 14 t14 t13 :: tn 15 t15 t15 :: tn 16 t16 t16 :: tn 17 t17 t17 :: tn 18 t18 t18 :: tn 19 t19 t18 :: tn 20 t20 t20 :: tn 21 t21 t21 :: tn 22 t22 t22 :: tn 23 t23 t23 :: tn 24 t24 t23 :: tn 25 t25 t25 :: tabS1
theorem tabS0_ok:TabOk prog tabS0 := by
 unfold tabS0
 refine TabOk.consR type1 underlying1 (by kernel_rfl) (by kernel_rfl) ?_
 refine TabOk.consR type2 underlying2 (by kernel_rfl) (by kernel_rfl) ?_
 refine TabOk.consR type3 underlying3 (by kernel_rfl) (by kernel_rfl) ?_
 refine TabOk.consR type4 underlying4 (by kernel_rfl) (by kernel_rfl) ?_
 refine TabOk.consR type5 underlying5 (by kernel_rfl) (by kernel_rfl) ?_
 refine TabOk.consR type6 underlying6 (by kernel_rfl) (by kernel_rfl) ?_
 refine TabOk.consR type7 underlying7 (by kernel_rfl) (by kernel_rfl) ?_
 refine TabOk.consR type8 underlying8 (by kernel_rfl) (by kernel_rfl) ?_
 refine TabOk.consR type9 underlying9 (by kernel_rfl) (by kernel_rfl) ?_
 refine TabOk.consR type10 underlying10 (by kernel_rfl) (by kernel_rfl) ?_
 refine TabOk.consR type11 underlying11 (by kernel_rfl) (by kernel_rfl) ?_
 refine TabOk.consR type12 underlying12 (by kernel_rfl) (by kernel_rfl) ?_
 refine TabOk.consR type13 underlying13 (by kernel_rfl) (by kernel_rfl) ?_
 refine TabOk.consR type14 underlying14 (by kernel_rfl) (by kernel_rfl) ?_
 refine TabOk.consR type15 underlying15 (by kernel_rfl) (by kernel_rfl) ?_
 refine TabOk.consR type16 underlying16 (by kernel_rfl) (by kernel_rfl) ?_
 refine TabOk.consR type17 underlying17 (by kernel_rfl) (by kernel_rfl) ?_
 refine TabOk.consR type18 underlying18 (by kernel_rfl) (by kernel_rfl) ?_
 refine TabOk.consR type19 underlying19 (by kernel_rfl) (by kernel_rfl) ?_
 refine TabOk.consR type20 underlying20 (by kernel_rfl) (by kernel_rfl) ?_
 refine TabOk.consR type21 underlying21 (by kernel_rfl) (by kernel_rfl) ?_
 refine TabOk.consR type22 underlying22 (by kernel_rfl) (by kernel_rfl) ?_
 refine TabOk.consR type23 underlying23 (by kernel_rfl) (by kernel_rfl) ?_
 refine TabOk.consR type24 underlying24 (by kernel_rfl) (by kernel_rfl) ?_
 refine TabOk.consR type25 underlying25 (by kernel_rfl) (by kernel_rfl) ?_
 exact tabS1_ok
noncomputable def fnsS12:List (Nat × Func) := []
theorem fnsS12_ok:FnsOk prog fnsS12 := FnsOk.nil _
noncomputable def fnsS11:List (Nat × Func) := ((279,Tryz.f279):Nat × Func) :: ((280,Tryz.f280):Nat × Func) :: ((303,Tryz.f303):Nat × Func) :: fnsS12
theorem fnsS11_ok:FnsOk prog fnsS11 := by
 unfold fnsS11
 refine FnsOk.cons func279 call279 ?_
 refine FnsOk.cons func280 call280 ?_
 refine FnsOk.cons func303 call303 ?_
 exact fnsS12_ok
noncomputable def fnsS10:List (Nat × Func) := ((252,Tryz.f252):Nat × Func) :: ((253,Tryz.f253):Nat × Func) :: ((254,Tryz.f254):Nat × Func) :: ((255,Tryz.f255):Nat × Func) :: ((256,Tryz.f256):Nat × Func) :: ((257,Tryz.f257):Nat × Func) :: ((258,Tryz.f258):Nat × Func) :: ((259,Tryz.f259):Nat × Func) :: ((260,Tryz.f260):Nat × Func) :: ((261,Tryz.f261):Nat × Func) :: ((262,Tryz.f262):Nat × Func) :: ((263,Tryz.f263):Nat × Func) :: ((264,Tryz.f264):Nat × Func) :: ((265,Tryz.f265):Nat × Func) :: ((266,Tryz.f266):Nat × Func) :: ((267,Tryz.f267):Nat × Func) :: ((268,Tryz.f268):Nat × Func) :: ((269,Tryz.f269):Nat × Func) :: ((270,Tryz.f270):Nat × Func) :: ((271,Tryz.f271):Nat × Func) :: ((272,Tryz.f272):Nat × Func) :: ((273,Tryz.f273):Nat × Func) :: ((274,Tryz.f274):Nat × Func) :: ((275,Tryz.f275):Nat × Func) :: ((276,Tryz.f276):Nat × Func) :: fnsS11
theorem fnsS10_ok:FnsOk prog fnsS10 := by
 unfold fnsS10
 refine FnsOk.cons func252 call252 ?_
 refine FnsOk.cons func253 call253 ?_
 refine FnsOk.cons func254 call254 ?_
 refine FnsOk.cons func255 call255 ?_
 refine FnsOk.cons func256 call256 ?_
 refine FnsOk.cons func257 call257 ?_
 refine FnsOk.cons func258 call258 ?_
 refine FnsOk.cons func259 call259 ?_
 refine FnsOk.cons func260 call260 ?_
 refine FnsOk.cons func261 call261 ?_
 refine FnsOk.cons func262 call262 ?_
 refine FnsOk.cons func263 call263 ?_
 refine FnsOk.cons func264 call264 ?_
 refine FnsOk.cons func265 call265 ?_
 refine FnsOk.cons func266 call266 ?_
 refine FnsOk.cons func267 call267 ?_
 refine FnsOk.cons func268 call268 ?_
 refine FnsOk.cons func269 call269 ?_
 refine FnsOk.cons func270 call270 ?_
 refine FnsOk.cons func271 call271 ?_
 refine FnsOk.cons func272 call272 ?_
 refine FnsOk.cons func273 call273 ?_
 refine FnsOk.cons func274 call274 ?_
 refine FnsOk.cons func275 call275 ?_
 refine FnsOk.cons func276 call276 ?_
 exact fnsS11_ok
noncomputable def fnsS9:List (Nat × Func) := ((227,Tryz.f227):Nat × Func) :: ((228,Tryz.f228):Nat × Func) :: ((229,Tryz.f229):Nat × Func) :: ((230,Tryz.f230):Nat × Func) :: ((231,Tryz.f231):Nat × Func) :: ((232,Tryz.f232):Nat × Func) :: ((233,Tryz.f233):Nat × Func) :: ((234,Tryz.f234):Nat × Func) :: ((235,Tryz.f235):Nat × Func) :: ((236,Tryz.f236):Nat × Func) :: ((237,Tryz.f237):Nat × Func) :: ((238,Tryz.f238):Nat × Func) :: ((239,Tryz.f239):Nat × Func) :: ((240,Tryz.f240):Nat × Func) :: ((241,Tryz.f241):Nat × Func) :: ((242,Tryz.f242):Nat × Func) :: ((243,Tryz.f243):Nat × Func) :: ((244,Tryz.f244):Nat × Func) :: ((245,Tryz.f245):Nat × Func) :: ((246,Tryz.f246):Nat × Func) :: ((247,Tryz.f247):Nat × Func) :: ((248,Tryz.f248):Nat × Func) :: ((249,Tryz.f249):Nat × Func) :: ((250,Tryz.f250):Nat × Func) :: ((251,Tryz.f251):Nat × Func) :: fnsS10
theorem fnsS9_ok:FnsOk prog fnsS9 := by
 unfold fnsS9
 refine FnsOk.cons func227 call227 ?_
 refine FnsOk.cons func228 call228 ?_
 refine FnsOk.cons func229 call229 ?_
 refine FnsOk.cons func230 call230 ?_
 refine FnsOk.cons func231 call231 ?_
 refine FnsOk.cons func232 call232 ?_
 refine FnsOk.cons func233 call233 ?_
 refine FnsOk.cons func234 call234 ?_
 refine FnsOk.cons func235 call235 ?_
 refine FnsOk.cons func236 call236 ?_
 refine FnsOk.cons func237 call237 ?_
 refine FnsOk.cons func238 call238 ?_
 refine FnsOk.cons func239 call239 ?_
 refine FnsOk.cons func240 call240 ?_
 refine FnsOk.cons func241 call241 ?_
 refine FnsOk.cons func242 call242 ?_
 refine FnsOk.cons func243 call243 ?_
 refine FnsOk.cons func244 call244 ?_
 refine FnsOk.cons func245 call245 ?_
 refine FnsOk.cons func246 call246 ?_
 refine FnsOk.cons func247 call247 ?_
 refine FnsOk.cons func248 call248 ?_
 refine FnsOk.cons func249 call249 ?_
 refine FnsOk.cons func250 call250 ?_
 refine FnsOk.cons func251 call251 ?_
 exact fnsS10_ok
noncomputable def fnsS8:List (Nat × Func) := ((202,Tryz.f202):Nat × Func) :: ((203,Tryz.f203):Nat × Func) :: ((204,Tryz.f204):Nat × Func) :: ((205,Tryz.f205):Nat × Func) :: ((206,Tryz.f206):Nat × Func) :: ((207,Tryz.f207):Nat × Func) :: ((208,Tryz.f208):Nat × Func) :: ((209,Tryz.f209):Nat × Func) :: ((210,Tryz.f210):Nat × Func) :: ((211,Tryz.f211):Nat × Func) :: ((212,Tryz.f212):Nat × Func) :: ((213,Tryz.f213):Nat × Func) :: ((214,Tryz.f214):Nat × Func) :: ((215,Tryz.f215):Nat × Func) :: ((216,Tryz.f216):Nat × Func) :: ((217,Tryz.f217):Nat × Func) :: ((218,Tryz.f218):Nat × Func) :: ((219,Tryz.f219):Nat × Func) :: ((220,Tryz.f220):Nat × Func) :: ((221,Tryz.f221):Nat × Func) :: ((222,Tryz.f222):Nat × Func) :: ((223,Tryz.f223):Nat × Func) :: ((224,Tryz.f224):Nat × Func) :: ((225,Tryz.f225):Nat × Func) :: ((226,Tryz.f226):Nat × Func) :: fnsS9
theorem fnsS8_ok:FnsOk prog fnsS8 := by
 unfold fnsS8
 refine FnsOk.cons func202 call202 ?_
 refine FnsOk.cons func203 call203 ?_
 refine FnsOk.cons func204 call204 ?_
 refine FnsOk.cons func205 call205 ?_
 refine FnsOk.cons func206 call206 ?_
 refine FnsOk.cons func207 call207 ?_
 refine FnsOk.cons func208 call208 ?_
 refine FnsOk.cons func209 call209 ?_
 refine FnsOk.cons func210 call210 ?_
 refine FnsOk.cons func211 call211 ?_
 refine FnsOk.cons func212 call212 ?_
 refine FnsOk.cons func213 call213 ?_
 refine FnsOk.cons func214 call214 ?_
 refine FnsOk.cons func215 call215 ?_
 refine FnsOk.cons func216 call216 ?_
 refine FnsOk.cons func217 call217 ?_
 refine FnsOk.cons func218 call218 ?_
 refine FnsOk.cons func219 call219 ?_
 refine FnsOk.cons func220 call220 ?_
 refine FnsOk.cons func221 call221 ?_
 refine FnsOk.cons func222 call222 ?_
 refine FnsOk.cons func223 call223 ?_
 refine FnsOk.cons func224 call224 ?_
 refine FnsOk.cons func225 call225 ?_
 refine FnsOk.cons func226 call226 ?_
 exact fnsS9_ok
noncomputable def fnsS7:List (Nat × Func) := ((177,Tryz.f177):Nat × Func) :: ((178,Tryz.f178):Nat × Func) :: ((179,Tryz.f179):Nat × Func) :: ((180,Tryz.f180):Nat × Func) :: ((181,Tryz.f181):Nat × Func) :: ((182,Tryz.f182):Nat × Func) :: ((183,Tryz.f183):Nat × Func) :: ((184,Tryz.f184):Nat × Func) :: ((185,Tryz.f185):Nat × Func) :: ((186,Tryz.f186):Nat × Func) :: ((187,Tryz.f187):Nat × Func) :: ((188,Tryz.f188):Nat × Func) :: ((189,Tryz.f189):Nat × Func) :: ((190,Tryz.f190):Nat × Func) :: ((191,Tryz.f191):Nat × Func) :: ((192,Tryz.f192):Nat × Func) :: ((193,Tryz.f193):Nat × Func) :: ((194,Tryz.f194):Nat × Func) :: ((195,Tryz.f195):Nat × Func) :: ((196,Tryz.f196):Nat × Func) :: ((197,Tryz.f197):Nat × Func) :: ((198,Tryz.f198):Nat × Func) :: ((199,Tryz.f199):Nat × Func) :: ((200,Tryz.f200):Nat × Func) :: ((201,Tryz.f201):Nat × Func) :: fnsS8
theorem fnsS7_ok:FnsOk prog fnsS7 := by
 unfold fnsS7
 refine FnsOk.cons func177 call177 ?_
 refine FnsOk.cons func178 call178 ?_
 refine FnsOk.cons func179 call179 ?_
 refine FnsOk.cons func180 call180 ?_
 refine FnsOk.cons func181 call181 ?_
 refine FnsOk.cons func182 call182 ?_
 refine FnsOk.cons func183 call183 ?_
 refine FnsOk.cons func184 call184 ?_
 refine FnsOk.cons func185 call185 ?_
 refine FnsOk.cons func186 call186 ?_
 refine FnsOk.cons func187 call187 ?_
 refine FnsOk.cons func188 call188 ?_
 refine FnsOk.cons func189 call189 ?_
 refine FnsOk.cons func190 call190 ?_
 refine FnsOk.cons func191 call191 ?_
 refine FnsOk.cons func192 call192 ?_
 refine FnsOk.cons func193 call193 ?_
 refine FnsOk.cons func194 call194 ?_
 refine FnsOk.cons func195 call195 ?_
 refine FnsOk.cons func196 call196 ?_
 refine FnsOk.cons func197 call197 ?_
 refine FnsOk.cons func198 call198 ?_
 refine FnsOk.cons func199 call199 ?_
 refine FnsOk.cons func200 call200 ?_
 refine FnsOk.cons func201 call201 ?_
 exact fnsS8_ok
noncomputable def fnsS6:List (Nat × Func) := ((152,Tryz.f152):Nat × Func) :: ((153,Tryz.f153):Nat × Func) :: ((154,Tryz.f154):Nat × Func) :: ((155,Tryz.f155):Nat × Func) :: ((156,Tryz.f156):Nat × Func) :: ((157,Tryz.f157):Nat × Func) :: ((158,Tryz.f158):Nat × Func) :: ((159,Tryz.f159):Nat × Func) :: ((160,Tryz.f160):Nat × Func) :: ((161,Tryz.f161):Nat × Func) :: ((162,Tryz.f162):Nat × Func) :: ((163,Tryz.f163):Nat × Func) :: ((164,Tryz.f164):Nat × Func) :: ((165,Tryz.f165):Nat × Func) :: ((166,Tryz.f166):Nat × Func) :: ((167,Tryz.f167):Nat × Func) :: ((168,Tryz.f168):Nat × Func) :: ((169,Tryz.f169):Nat × Func) :: ((170,Tryz.f170):Nat × Func) :: ((171,Tryz.f171):Nat × Func) :: ((172,Tryz.f172):Nat × Func) :: ((173,Tryz.f173):Nat × Func) :: ((174,Tryz.f174):Nat × Func) :: ((175,Tryz.f175):Nat × Func) :: ((176,Tryz.f176):Nat × Func) :: fnsS7
theorem fnsS6_ok:FnsOk prog fnsS6 := by
 unfold fnsS6
 refine FnsOk.cons func152 call152 ?_
 refine FnsOk.cons func153 call153 ?_
 refine FnsOk.cons func154 call154 ?_
 refine FnsOk.cons func155 call155 ?_
 refine FnsOk.cons func156 call156 ?_
 refine FnsOk.cons func157 call157 ?_
 refine FnsOk.cons func158 call158 ?_
 refine FnsOk.cons func159 call159 ?_
 refine FnsOk.cons func160 call160 ?_
 refine FnsOk.cons func161 call161 ?_
 refine FnsOk.cons func162 call162 ?_
 refine FnsOk.cons func163 call163 ?_
 refine FnsOk.cons func164 call164 ?_
 refine FnsOk.cons func165 call165 ?_
 refine FnsOk.cons func166 call166 ?_
 refine FnsOk.cons func167 call167 ?_
 refine FnsOk.cons func168 call168 ?_
 refine FnsOk.cons func169 call169 ?_
 refine FnsOk.cons func170 call170 ?_
 refine FnsOk.cons func171 call171 ?_
 refine FnsOk.cons func172 call172 ?_
 refine FnsOk.cons func173 call173 ?_
 refine FnsOk.cons func174 call174 ?_
 refine FnsOk.cons func175 call175 ?_
 refine FnsOk.cons func176 call176 ?_
 exact fnsS7_ok
noncomputable def fnsS5:List (Nat × Func) := ((127,Tryz.f127):Nat × Func) :: ((128,Tryz.f128):Nat × Func) :: ((129,Tryz.f129):Nat × Func) :: ((130,Tryz.f130):Nat × Func) :: ((131,Tryz.f131):Nat × Func) :: ((132,Tryz.f132):Nat × Func) :: ((133,Tryz.f133):Nat × Func) :: ((134,Tryz.f134):Nat × Func) :: ((135,Tryz.f135):Nat × Func) :: ((136,Tryz.f136):Nat × Func) :: ((137,Tryz.f137):Nat × Func) :: ((138,Tryz.f138):Nat × Func) :: ((139,Tryz.f139):Nat × Func) :: ((140,Tryz.f140):Nat × Func) :: ((141,Tryz.f141):Nat × Func) :: ((142,Tryz.f142):Nat × Func) :: ((143,Tryz.f143):Nat × Func) :: ((144,Tryz.f144):Nat × Func) :: ((145,Tryz.f145):Nat × Func) :: ((146,Tryz.f146):Nat × Func) :: ((147,Tryz.f147):Nat × Func) :: ((148,Tryz.f148):Nat × Func) :: ((149,Tryz.f149):Nat × Func) :: ((150,Tryz.f150):Nat × Func) :: ((151,Tryz.f151):Nat × Func) :: fnsS6
theorem fnsS5_ok:FnsOk prog fnsS5 := by
 unfold fnsS5
 refine FnsOk.cons func127 call127 ?_
 refine FnsOk.cons func128 call128 ?_
 refine FnsOk.cons func129 call129 ?_
 refine FnsOk.cons func130 call130 ?_
 refine FnsOk.cons func131 call131 ?_
 refine FnsOk.cons func132 call132 ?_
 refine FnsOk.cons func133 call133 ?_
 refine FnsOk.cons func134 call134 ?_
 refine FnsOk.cons func135 call135 ?_
 refine FnsOk.cons func136 call136 ?_
 refine FnsOk.cons func137 call137 ?_
 refine FnsOk.cons func138 call138 ?_
 refine FnsOk.cons func139 call139 ?_
 refine FnsOk.cons func140 call140 ?_
 refine FnsOk.cons func141 call141 ?_
 refine FnsOk.cons func142 call142 ?_
 refine FnsOk.cons func143 call143 ?_
 refine FnsOk.cons func144 call144 ?_
 refine FnsOk.cons func145 call145 ?_
 refine FnsOk.cons func146 call146 ?_
 refine FnsOk.cons func147 call147 ?_
 refine FnsOk.cons func148 call148 ?_
 refine FnsOk.cons func149 call149 ?_
 refine FnsOk.cons func150 call150 ?_
 refine FnsOk.cons func151 call151 ?_
 exact fnsS6_ok
noncomputable def fnsS4:List (Nat × Func) := ((102,Tryz.f102):Nat × Func) :: ((103,Tryz.f103):Nat × Func) :: ((104,Tryz.f104):Nat × Func) :: ((105,Tryz.f105):Nat × Func) :: ((106,Tryz.f106):Nat × Func) :: ((107,Tryz.f107):Nat × Func) :: ((108,Tryz.f108):Nat × Func) :: ((109,Tryz.f109):Nat × Func) :: ((110,Tryz.f110):Nat × Func) :: ((111,Tryz.f111):Nat × Func) :: ((112,Tryz.f112):Nat × Func) :: ((113,Tryz.f113):Nat × Func) :: ((114,Tryz.f114):Nat × Func) :: ((115,Tryz.f115):Nat × Func) :: ((116,Tryz.f116):Nat × Func) :: ((117,Tryz.f117):Nat × Func) :: ((118,Tryz.f118):Nat × Func) :: ((119,Tryz.f119):Nat × Func) :: ((120,Tryz.f120):Nat × Func) :: ((121,Tryz.f121):Nat × Func) :: ((122,Tryz.f122):Nat × Func) :: ((123,Tryz.f123):Nat × Func) :: ((124,Tryz.f124):Nat × Func) :: ((125,Tryz.f125):Nat × Func) :: ((126,Tryz.f126):Nat × Func) :: fnsS5
theorem fnsS4_ok:FnsOk prog fnsS4 := by
 unfold fnsS4
 refine FnsOk.cons func102 call102 ?_
 refine FnsOk.cons func103 call103 ?_
 refine FnsOk.cons func104 call104 ?_
 refine FnsOk.cons func105 call105 ?_
 refine FnsOk.cons func106 call106 ?_
 refine FnsOk.cons func107 call107 ?_
 refine FnsOk.cons func108 call108 ?_
 refine FnsOk.cons func109 call109 ?_
 refine FnsOk.cons func110 call110 ?_
 refine FnsOk.cons func111 call111 ?_
 refine FnsOk.cons func112 call112 ?_
 refine FnsOk.cons func113 call113 ?_
 refine FnsOk.cons func114 call114 ?_
 refine FnsOk.cons func115 call115 ?_
 refine FnsOk.cons func116 call116 ?_
 refine FnsOk.cons func117 call117 ?_
 refine FnsOk.cons func118 call118 ?_
 refine FnsOk.cons func119 call119 ?_
 refine FnsOk.cons func120 call120 ?_
 refine FnsOk.cons func121 call121 ?_
 refine FnsOk.cons func122 call122 ?_
 refine FnsOk.cons func123 call123 ?_
 refine FnsOk.cons func124 call124 ?_
 refine FnsOk.cons func125 call125 ?_
 refine FnsOk.cons func126 call126 ?_
 exact fnsS5_ok
noncomputable def fnsS3:List (Nat × Func) := ((77,Tryz.f77):Nat × Func) :: ((78,Tryz.f78):Nat × Func) :: ((79,Tryz.f79):Nat × Func) :: ((80,Tryz.f80):Nat × Func) :: ((81,Tryz.f81):Nat × Func) :: ((82,Tryz.f82):Nat × Func) :: ((83,Tryz.f83):Nat × Func) :: ((84,Tryz.f84):Nat × Func) :: ((85,Tryz.f85):Nat × Func) :: ((86,Tryz.f86):Nat × Func) :: ((87,Tryz.f87):Nat × Func) :: ((88,Tryz.f88):Nat × Func) :: ((89,Tryz.f89):Nat × Func) :: ((90,Tryz.f90):Nat × Func) :: ((91,Tryz.f91):Nat × Func) :: ((92,Tryz.f92):Nat × Func) :: ((93,Tryz.f93):Nat × Func) :: ((94,Tryz.f94):Nat × Func) :: ((95,Tryz.f95):Nat × Func) :: ((96,Tryz.f96):Nat × Func) :: ((97,Tryz.f97):Nat × Func) :: ((98,Tryz.f98):Nat × Func) :: ((99,Tryz.f99):Nat × Func) :: ((100,Tryz.f100):Nat × Func) :: ((101,Tryz.f101):Nat × Func) :: fnsS4
theorem fnsS3_ok:FnsOk prog fnsS3 := by
 unfold fnsS3
 refine FnsOk.cons func77 call77 ?_
 refine FnsOk.cons func78 call78 ?_
 refine FnsOk.cons func79 call79 ?_
 refine FnsOk.cons func80 call80 ?_
 refine FnsOk.cons func81 call81 ?_
 refine FnsOk.cons func82 call82 ?_
 refine FnsOk.cons func83 call83 ?_
 refine FnsOk.cons func84 call84 ?_
 refine FnsOk.cons func85 call85 ?_
 refine FnsOk.cons func86 call86 ?_
 refine FnsOk.cons func87 call87 ?_
 refine FnsOk.cons func88 call88 ?_
 refine FnsOk.cons func89 call89 ?_
 refine FnsOk.cons func90 call90 ?_
 refine FnsOk.cons func91 call91 ?_
 refine FnsOk.cons func92 call92 ?_
 refine FnsOk.cons func93 call93 ?_
 refine FnsOk.cons func94 call94 ?_
 refine FnsOk.cons func95 call95 ?_
 refine FnsOk.cons func96 call96 ?_
 refine FnsOk.cons func97 call97 ?_
 refine FnsOk.cons func98 call98 ?_
 refine FnsOk.cons func99 call99 ?_
 refine FnsOk.cons func100 call100 ?_
 refine FnsOk.cons func101 call101 ?_
 exact fnsS4_ok
noncomputable def fnsS2:List (Nat × Func) := ((52,Tryz.f52):Nat × Func) :: ((53,Tryz.f53):Nat × Func) :: ((54,Tryz.f54):Nat × Func) :: ((55,Tryz.f55):Nat × Func) :: ((56,Tryz.f56):Nat × Func) :: ((57,Tryz.f57):Nat × Func) :: ((58,Tryz.f58):Nat × Func) :: ((59,Tryz.f59):Nat × Func) :: ((60,Tryz.f60):Nat × Func) :: ((61,Tryz.f61):Nat × Func) :: ((62,Tryz.f62):Nat × Func) :: ((63,Tryz.f63):Nat × Func) :: ((64,Tryz.f64):Nat × Func) :: ((65,Tryz.f65):Nat × Func) :: ((66,Tryz.f66):Nat × Func) :: ((67,Tryz.f67):Nat × Func) :: ((68,Tryz.f68):Nat × Func) :: ((69,Tryz.f69):Nat × Func) :: ((70,Tryz.f70):Nat × Func) :: ((71,Tryz.f71):Nat × Func) :: ((72,Tryz.f72):Nat × Func) :: ((73,Tryz.f73):Nat × Func) :: ((74,Tryz.f74):Nat × Func) :: ((75,Tryz.f75):Nat × Func) :: ((76,Tryz.f76):Nat × Func) :: fnsS3
theorem fnsS2_ok:FnsOk prog fnsS2 := by
 unfold fnsS2
 refine FnsOk.cons func52 call52 ?_
 refine FnsOk.cons func53 call53 ?_
 refine FnsOk.cons func54 call54 ?_
 refine FnsOk.cons func55 call55 ?_
 refine FnsOk.cons func56 call56 ?_
 refine FnsOk.cons func57 call57 ?_
 refine FnsOk.cons func58 call58 ?_
 refine FnsOk.cons func59 call59 ?_
 refine FnsOk.cons func60 call60 ?_
 refine FnsOk.cons func61 call61 ?_
 refine FnsOk.cons func62 call62 ?_
 refine FnsOk.cons func63 call63 ?_
 refine FnsOk.cons func64 call64 ?_
 refine FnsOk.cons func65 call65 ?_
 refine FnsOk.cons func66 call66 ?_
 refine FnsOk.cons func67 call67 ?_
 refine FnsOk.cons func68 call68 ?_
 refine FnsOk.cons func69 call69 ?_
 refine FnsOk.cons func70 call70 ?_
 refine FnsOk.cons func71 call71 ?_
 refine FnsOk.cons func72 call72 ?_
 refine FnsOk.cons func73 call73 ?_
 refine FnsOk.cons func74 call74 ?_
 refine FnsOk.cons func75 call75 ?_
 refine FnsOk.cons func76 call76 ?_
 exact fnsS3_ok
noncomputable def fnsS1:List (Nat × Func) := ((27,Tryz.f27):Nat × Func) :: ((28,Tryz.f28):Nat × Func) :: ((29,Tryz.f29):Nat × Func) :: ((30,Tryz.f30):Nat × Func) :: ((31,Tryz.f31):Nat × Func) :: ((32,Tryz.f32):Nat × Func) :: ((33,Tryz.f33):Nat × Func) :: ((34,Tryz.f34):Nat × Func) :: ((35,Tryz.f35):Nat × Func) :: ((36,Tryz.f36):Nat × Func) :: ((37,Tryz.f37):Nat × Func) :: ((38,Tryz.f38):Nat × Func) :: ((39,Tryz.f39):Nat × Func) :: ((40,Tryz.f40):Nat × Func) :: ((41,Tryz.f41):Nat × Func) :: ((42,Tryz.f42):Nat × Func) :: ((43,Tryz.f43):Nat × Func) :: ((44,Tryz.f44):Nat × Func) :: ((45,Tryz.f45):Nat × Func) :: ((46,Tryz.f46):Nat × Func) :: ((47,Tryz.f47):Nat × Func) :: ((48,Tryz.f48):Nat × Func) :: ((49,Tryz.f49):Nat × Func) :: ((50,Tryz.f50):Nat × Func) :: ((51,Tryz.f51):Nat × Func) :: fnsS2
theorem fnsS1_ok:FnsOk prog fnsS1 := by
 unfold fnsS1
 refine FnsOk.cons func27 call27 ?_
 refine FnsOk.cons func28 call28 ?_
 refine FnsOk.cons func29 call29 ?_
 refine FnsOk.cons func30 call30 ?_
 refine FnsOk.cons func31 call31 ?_
 refine FnsOk.cons func32 call32 ?_
 refine FnsOk.cons func33 call33 ?_
 refine FnsOk.cons func34 call34 ?_
 refine FnsOk.cons func35 call35 ?_
 refine FnsOk.cons func36 call36 ?_
 refine FnsOk.cons func37 call37 ?_
 refine FnsOk.cons func38 call38 ?_
 refine FnsOk.cons func39 call39 ?_
 refine FnsOk.cons func40 call40 ?_
 refine FnsOk.cons func41 call41 ?_
 refine FnsOk.cons func42 call42 ?_
 refine FnsOk.cons func43 call43 ?_
 refine FnsOk.cons func44 call44 ?_
 refine FnsOk.cons func45 call45 ?_
 refine FnsOk.cons func46 call46 ?_
 refine FnsOk.cons func47 call47 ?_
 refine FnsOk.cons func48 call48 ?_
 refine FnsOk.cons func49 call49 ?_
 refine FnsOk.cons func50 call50 ?_
 refine FnsOk.cons func51 call51 ?_
 exact fnsS2_ok
noncomputable def fnsS0:List (Nat × Func) := ((2,Tryz.f2):Nat × Func) :: ((3,Tryz.f3):Nat × Func) :: ((4,Tryz.f4):Nat × Func) :: ((5,Tryz.f5):Nat × Func) :: ((6,Tryz.f6):Nat × Func) :: ((7,Tryz.f7):Nat × Func) :: ((8,Tryz.f8):Nat × Func) :: ((9,Tryz.f9):Nat × Func) :: ((10,Tryz.f10):Nat × Func) :: ((11,Tryz.f11):Nat × Func) :: ((12,Tryz.f12):Nat × Func) :: ((13,Tryz.f13):Nat × Func) :: ((14,Tryz.f14):Nat × Func) :: ((15,Tryz.f15):Nat × Func) :: ((16,Tryz.f16):Nat × Func) :: ((17,Tryz.f17):Nat × Func) :: ((18,Tryz.f18):Nat × Func) :: ((19,Tryz.f19):Nat × Func) :: ((20,Tryz.f20):Nat × Func) :: ((21,Tryz.f21):Nat × Func) :: ((22,Tryz.f22):Nat × Func) :: ((23,Tryz.f23):Nat × Func) :: ((24,Tryz.f24):Nat × Func) :: ((25,Tryz.f25):Nat × Func) :: ((26,Tryz.f26):Nat × Func) :: fnsS1
theorem fnsS0_ok:FnsOk prog fnsS0 := by
 unfold fnsS0
 refine FnsOk.cons func2 call2 ?_
 refine FnsOk.cons func3 call3 ?_
 refine FnsOk.cons func4 call4 ?_
 refine FnsOk.cons func5 call5 ?_
 refine FnsOk.cons func6 call6 ?_
 refine FnsOk.cons func7 call7 ?_
 refine FnsOk.cons func8 call8 ?_
 refine FnsOk.cons func9 call9 ?_
 refine FnsOk.cons func10 call10 ?_
 refine FnsOk.cons func11 call11 ?_
 refine FnsOk.cons func12 call12 ?_
 refine FnsOk.cons func13 call13 ?_
 refine FnsOk.cons func14 call14 ?_
 refine FnsOk.cons func15 call15 ?_
 refine FnsOk.cons func16 call16 ?_
 refine FnsOk.cons func17 call17 ?_
 refine FnsOk.cons func18 call18 ?_
 refine FnsOk.cons func19 call19 ?_
 refine FnsOk.cons func20 call20 ?_
 refine FnsOk.cons func21 call21 ?_
 refine FnsOk.cons func22 call22 ?_
 refine FnsOk.cons func23 call23 ?_
 refine FnsOk.cons func24 call24 ?_
 refine FnsOk.cons func25 call25 ?_
 refine FnsOk.cons func26 call26 ?_
 exact fnsS1_ok
theorem cx_ok:cx.Ok := ⟨show TabOk prog tab from tabS0_ok,show FnsOk prog fns from fnsS0_ok,by kernel_rfl⟩
theorem kC {g:Nat} {p:PC} {l:List (Nat × Sm)} {an:List (Nat × Ann)} {st:List Nat} (h:PCOk cx g p) (t:Lx.Ok cx { ext := l,anns := an,still := st }):Lx.Ok cx { ext := (g,p.sm) :: l,anns := an,still := st } := Lx.ok_cons (PC.sm_ok h) t
theorem kX {g:Nat} {p:PX} {l:List (Nat × Sm)} {an:List (Nat × Ann)} {st:List Nat} (h:PXOk cx g p) (t:Lx.Ok cx { ext := l,anns := an,still := st }):Lx.Ok cx { ext := (g,p.sm) :: l,anns := an,still := st } := Lx.ok_cons (PX.sm_ok h) t
structure LK where
 l:List (Nat × Sm)
 ok:Lx.Ok cx { ext := l,anns := [],still := [] }
def LK.x (k:LK):Lx := { ext := k.l,anns := [],still := [] }
def lN:LK := ⟨[],Lx.ok_nil⟩
def lS {g:Nat} {s:Sm} (h:SmOk cx g s) (t:LK):LK := ⟨(g,s) :: t.l,Lx.ok_cons h t.ok⟩
noncomputable def lC {g:Nat} {p:PC} (h:PCOk cx g p) (t:LK):LK := ⟨(g,p.sm) :: t.l,kC h t.ok⟩
noncomputable def qT (k:LK) (an:Ann) (fn:Func) (ats rts:List ATy):PC := pcT cx k.x an fn (bodyOf fn) ats rts
theorem qT_ok {g:Nat} {k:LK} {an:Ann} {fn:Func} {ats rts:List ATy} (h:(cx.fns.lookup g,fn.body,Nat.ble ats.length fn.ntmps) = (some fn,some (bodyOf fn),true)):PCOk cx g (qT k an fn ats rts) := pcT_ok cx_ok k.ok (congrArg (fun x=>x.1) h) (congrArg (fun x=>x.2.1) h) (congrArg (fun x=>x.2.2) h)
theorem qE {g:Nat} {p:PC} (k:LK) (an:Ann) (fn:Func) (h:(cx.fns.lookup g,fn.body,Nat.ble p.ats.length fn.ntmps) = (some fn,some (bodyOf fn),true)) (hc:∀ a,codeOf cx k.x 1000 an fn (bodyOf fn) p.ats p.rts a = p.code a):PCOk cx g p := PCOk.of_eval cx_ok k.ok (n := 1000) (an := an) (fn := fn) (c := bodyOf fn) (congrArg (fun x=>x.1) h) (congrArg (fun x=>x.2.1) h) (fun a _ e=>(hc a).trans e) (congrArg (fun x=>x.2.2) h)
noncomputable def qX (k:LK) (an:Ann) (fn:Func) (p:PX):PX := pxT cx k.x an fn (bodyOf fn) p
theorem qX_ok {g:Nat} {k:LK} {an:Ann} {fn:Func} {p:PX} (h:(cx.fns.lookup g,fn.body,Nat.ble p.np fn.ntmps,p.ω.covers p.ids && subset p.mv p.ids) = (some fn,some (bodyOf fn),true,true)):PXOk cx g (qX k an fn p) := pxT_ok cx_ok k.ok (congrArg (fun x=>x.1) h) (congrArg (fun x=>x.2.1) h) (congrArg (fun x=>x.2.2.1) h) (congrArg (fun x=>x.2.2.2) h)
theorem qXE {g:Nat} {p:PX} (k:LK) (an:Ann) (fn:Func) (h:(cx.fns.lookup g,fn.body,Nat.ble p.np fn.ntmps,p.ω.covers p.ids && subset p.mv p.ids) = (some fn,some (bodyOf fn),true,true)) (hc:∀ a,codeX cx k.x 1000 an fn (bodyOf fn) p a = p.code a):PXOk cx g p := PXOk.of_eval cx_ok k.ok (n := 1000) (an := an) (fn := fn) (c := bodyOf fn) (congrArg (fun x=>x.1) h) (congrArg (fun x=>x.2.1) h) (fun a _ e=>(hc a).trans e) (congrArg (fun x=>x.2.2.1) h) (congrArg (fun x=>x.2.2.2) h)
noncomputable def lX {g:Nat} {p:PX} (h:PXOk cx g p) (t:LK):LK := ⟨(g,p.sm) :: t.l,kX h t.ok⟩
abbrev TAct := Int × ByteArray × ByteArray × ByteArray × ByteArray × ByteArray × Int × Int × ByteArray × Int × ByteArray × List ByteArray
abbrev TCst := ByteArray × ByteArray × ByteArray × Int × Int × Int × Int × ByteArray × Int × ByteArray × Int
abbrev TEnt := ByteArray × ByteArray × ByteArray × Int × ByteArray × Int × Bool
abbrev TTm := ByteArray × ByteArray × List ByteArray
abbrev TAth := ByteArray × ByteArray × Int × ByteArray
abbrev TMt := Int × Int × Int × Int × List (TCst)
abbrev TSt := List ByteArray × List (TAth) × List (ByteArray × Int × Int) × List (TEnt) × List (TTm)
abbrev zCst:TCst := (ByteArray.empty,ByteArray.empty,ByteArray.empty,(0:Int),(0:Int),(0:Int),(0:Int),ByteArray.empty,(0:Int),ByteArray.empty,(0:Int))
abbrev zEnt:TEnt := (ByteArray.empty,ByteArray.empty,ByteArray.empty,(0:Int),ByteArray.empty,(0:Int),Bool.false)
abbrev zAth:TAth := (ByteArray.empty,ByteArray.empty,(0:Int),ByteArray.empty)
end Go.Proofs.Tryz
