/- The tables of the program for the evaluator. By program. -/
import Derived.Test.YtdghdcclhnoigaaGreatDoorXSxQf
import Derived.Test.YtdghdcclhnoigaaGreatDoorChecked
set_option maxRecDepth 100000
namespace Go.Proofs.Tryz
open Go Go.Sx
noncomputable def tab : Tab := [((1, { mkTI Tryz.t1 Tryz.t1 with row := none }) : Nat × TI), ((2, { mkTI Tryz.t2 Tryz.t2 with row := none }) : Nat × TI), ((3, { mkTI Tryz.t3 Tryz.t3 with row := some [.int .i64] }) : Nat × TI), ((4, { mkTI Tryz.t4 Tryz.t4 with row := some [.bool] }) : Nat × TI), ((5, { mkTI Tryz.t5 Tryz.t5 with row := some [.int .u8] }) : Nat × TI), ((6, { mkTI Tryz.t6 Tryz.t5 with row := none }) : Nat × TI), ((7, { mkTI Tryz.t7 Tryz.t7 with row := none }) : Nat × TI), ((8, { mkTI Tryz.t8 Tryz.t7 with row := none }) : Nat × TI), ((9, { mkTI Tryz.t9 Tryz.t9 with row := some [.str] }) : Nat × TI), ((10, { mkTI Tryz.t10 Tryz.t9 with row := none }) : Nat × TI), ((11, { mkTI Tryz.t11 Tryz.t9 with row := none }) : Nat × TI), ((12, { mkTI Tryz.t12 Tryz.t12 with row := none }) : Nat × TI), ((13, { mkTI Tryz.t13 Tryz.t13 with row := none }) : Nat × TI), ((14, { mkTI Tryz.t14 Tryz.t13 with row := none }) : Nat × TI), ((15, { mkTI Tryz.t15 Tryz.t15 with row := none }) : Nat × TI), ((16, { mkTI Tryz.t16 Tryz.t16 with row := none }) : Nat × TI), ((17, { mkTI Tryz.t17 Tryz.t17 with row := none }) : Nat × TI), ((18, { mkTI Tryz.t18 Tryz.t18 with row := none }) : Nat × TI), ((19, { mkTI Tryz.t19 Tryz.t18 with row := none }) : Nat × TI), ((20, { mkTI Tryz.t20 Tryz.t20 with row := none }) : Nat × TI), ((21, { mkTI Tryz.t21 Tryz.t21 with row := none }) : Nat × TI), ((22, { mkTI Tryz.t22 Tryz.t22 with row := none }) : Nat × TI), ((23, { mkTI Tryz.t23 Tryz.t23 with row := none }) : Nat × TI), ((24, { mkTI Tryz.t24 Tryz.t24 with row := none }) : Nat × TI), ((25, { mkTI Tryz.t25 Tryz.t25 with row := none }) : Nat × TI), ((26, { mkTI Tryz.t26 Tryz.t26 with row := none }) : Nat × TI), ((27, { mkTI Tryz.t27 Tryz.t27 with row := none }) : Nat × TI), ((28, { mkTI Tryz.t28 Tryz.t3 with row := some [.int .i64] }) : Nat × TI), ((29, { mkTI Tryz.t29 Tryz.t29 with row := none }) : Nat × TI), ((30, { mkTI Tryz.t30 Tryz.t30 with row := some [.seq [.int .i64]] }) : Nat × TI), ((32, { mkTI Tryz.t32 Tryz.t32 with row := none }) : Nat × TI), ((33, { mkTI Tryz.t33 Tryz.t33 with row := none }) : Nat × TI), ((35, { mkTI Tryz.t35 Tryz.t35 with row := none }) : Nat × TI), ((36, { mkTI Tryz.t36 Tryz.t36 with row := none }) : Nat × TI), ((37, { mkTI Tryz.t37 Tryz.t37 with row := none }) : Nat × TI), ((38, { mkTI Tryz.t38 Tryz.t38 with row := none }) : Nat × TI), ((39, { mkTI Tryz.t39 Tryz.t39 with row := none }) : Nat × TI), ((40, { mkTI Tryz.t40 Tryz.t40 with row := none }) : Nat × TI), ((41, { mkTI Tryz.t41 Tryz.t41 with row := none }) : Nat × TI), ((42, { mkTI Tryz.t42 Tryz.t42 with row := none }) : Nat × TI), ((43, { mkTI Tryz.t43 Tryz.t43 with row := none }) : Nat × TI), ((44, { mkTI Tryz.t44 Tryz.t44 with row := none }) : Nat × TI), ((45, { mkTI Tryz.t45 Tryz.t45 with row := none }) : Nat × TI), ((46, { mkTI Tryz.t46 Tryz.t46 with row := none }) : Nat × TI), ((48, { mkTI Tryz.t48 Tryz.t48 with row := none }) : Nat × TI), ((49, { mkTI Tryz.t49 Tryz.t49 with row := none }) : Nat × TI), ((50, { mkTI Tryz.t50 Tryz.t50 with row := none }) : Nat × TI), ((51, { mkTI Tryz.t51 Tryz.t51 with row := none }) : Nat × TI), ((52, { mkTI Tryz.t52 Tryz.t52 with row := none }) : Nat × TI), ((53, { mkTI Tryz.t53 Tryz.t53 with row := none }) : Nat × TI), ((54, { mkTI Tryz.t54 Tryz.t54 with row := none }) : Nat × TI), ((55, { mkTI Tryz.t55 Tryz.t55 with row := none }) : Nat × TI), ((56, { mkTI Tryz.t56 Tryz.t56 with row := none }) : Nat × TI), ((57, { mkTI Tryz.t57 Tryz.t57 with row := none }) : Nat × TI), ((58, { mkTI Tryz.t58 Tryz.t58 with row := none }) : Nat × TI), ((59, { mkTI Tryz.t59 Tryz.t59 with row := none }) : Nat × TI), ((60, { mkTI Tryz.t60 Tryz.t60 with row := none }) : Nat × TI), ((62, { mkTI Tryz.t62 Tryz.t62 with row := none }) : Nat × TI), ((63, { mkTI Tryz.t63 Tryz.t63 with row := none }) : Nat × TI), ((64, { mkTI Tryz.t64 Tryz.t64 with row := none }) : Nat × TI), ((65, { mkTI Tryz.t65 Tryz.t65 with row := none }) : Nat × TI), ((66, { mkTI Tryz.t66 Tryz.t65 with row := none }) : Nat × TI), ((67, { mkTI Tryz.t67 Tryz.t67 with row := none }) : Nat × TI), ((68, { mkTI Tryz.t68 Tryz.t67 with row := some [.str, .str, .int .i64, .str] }) : Nat × TI), ((69, { mkTI Tryz.t69 Tryz.t69 with row := none }) : Nat × TI), ((70, { mkTI Tryz.t70 Tryz.t70 with row := none }) : Nat × TI), ((71, { mkTI Tryz.t71 Tryz.t71 with row := none }) : Nat × TI), ((72, { mkTI Tryz.t72 Tryz.t72 with row := some [.seq [.str]] }) : Nat × TI), ((74, { mkTI Tryz.t74 Tryz.t74 with row := none }) : Nat × TI), ((75, { mkTI Tryz.t75 Tryz.t75 with row := none }) : Nat × TI), ((76, { mkTI Tryz.t76 Tryz.t76 with row := none }) : Nat × TI), ((77, { mkTI Tryz.t77 Tryz.t67 with row := some [.str, .str, .int .i64, .str] }) : Nat × TI), ((78, { mkTI Tryz.t78 Tryz.t78 with row := none }) : Nat × TI), ((80, { mkTI Tryz.t80 Tryz.t80 with row := none }) : Nat × TI), ((81, { mkTI Tryz.t81 Tryz.t81 with row := none }) : Nat × TI), ((82, { mkTI Tryz.t82 Tryz.t82 with row := none }) : Nat × TI), ((83, { mkTI Tryz.t83 Tryz.t83 with row := none }) : Nat × TI), ((85, { mkTI Tryz.t85 Tryz.t85 with row := none }) : Nat × TI), ((86, { mkTI Tryz.t86 Tryz.t86 with row := none }) : Nat × TI), ((87, { mkTI Tryz.t87 Tryz.t87 with row := none }) : Nat × TI), ((88, { mkTI Tryz.t88 Tryz.t88 with row := none }) : Nat × TI), ((89, { mkTI Tryz.t89 Tryz.t89 with row := none }) : Nat × TI), ((90, { mkTI Tryz.t90 Tryz.t89 with row := some [.int .i64, .int .i64, .int .i64] }) : Nat × TI), ((91, { mkTI Tryz.t91 Tryz.t89 with row := some [.int .i64, .int .i64, .int .i64] }) : Nat × TI), ((92, { mkTI Tryz.t92 Tryz.t92 with row := none }) : Nat × TI), ((93, { mkTI Tryz.t93 Tryz.t93 with row := none }) : Nat × TI), ((94, { mkTI Tryz.t94 Tryz.t94 with row := none }) : Nat × TI), ((95, { mkTI Tryz.t95 Tryz.t95 with row := none }) : Nat × TI), ((96, { mkTI Tryz.t96 Tryz.t96 with row := none }) : Nat × TI), ((97, { mkTI Tryz.t97 Tryz.t97 with row := none }) : Nat × TI), ((98, { mkTI Tryz.t98 Tryz.t98 with row := none }) : Nat × TI), ((99, { mkTI Tryz.t99 Tryz.t99 with row := none }) : Nat × TI), ((100, { mkTI Tryz.t100 Tryz.t100 with row := none }) : Nat × TI), ((101, { mkTI Tryz.t101 Tryz.t100 with row := some [.str, .str, .str, .int .i64, .str] }) : Nat × TI), ((102, { mkTI Tryz.t102 Tryz.t102 with row := none }) : Nat × TI), ((103, { mkTI Tryz.t103 Tryz.t103 with row := none }) : Nat × TI), ((104, { mkTI Tryz.t104 Tryz.t104 with row := some [.seq [.str, .str, .int .i64, .str]] }) : Nat × TI), ((106, { mkTI Tryz.t106 Tryz.t106 with row := none }) : Nat × TI), ((107, { mkTI Tryz.t107 Tryz.t107 with row := none }) : Nat × TI), ((108, { mkTI Tryz.t108 Tryz.t108 with row := none }) : Nat × TI), ((109, { mkTI Tryz.t109 Tryz.t109 with row := none }) : Nat × TI), ((110, { mkTI Tryz.t110 Tryz.t110 with row := none }) : Nat × TI), ((111, { mkTI Tryz.t111 Tryz.t111 with row := none }) : Nat × TI), ((112, { mkTI Tryz.t112 Tryz.t112 with row := some [.seq [.str, .str, .int .i64, .str]] }) : Nat × TI), ((114, { mkTI Tryz.t114 Tryz.t114 with row := none }) : Nat × TI), ((115, { mkTI Tryz.t115 Tryz.t115 with row := none }) : Nat × TI), ((116, { mkTI Tryz.t116 Tryz.t116 with row := none }) : Nat × TI), ((117, { mkTI Tryz.t117 Tryz.t100 with row := some [.str, .str, .str, .int .i64, .str] }) : Nat × TI), ((118, { mkTI Tryz.t118 Tryz.t118 with row := none }) : Nat × TI), ((119, { mkTI Tryz.t119 Tryz.t119 with row := none }) : Nat × TI), ((120, { mkTI Tryz.t120 Tryz.t120 with row := none }) : Nat × TI), ((121, { mkTI Tryz.t121 Tryz.t121 with row := none }) : Nat × TI), ((122, { mkTI Tryz.t122 Tryz.t122 with row := none }) : Nat × TI), ((123, { mkTI Tryz.t123 Tryz.t123 with row := none }) : Nat × TI), ((124, { mkTI Tryz.t124 Tryz.t124 with row := none }) : Nat × TI), ((125, { mkTI Tryz.t125 Tryz.t125 with row := none }) : Nat × TI), ((126, { mkTI Tryz.t126 Tryz.t125 with row := none }) : Nat × TI), ((127, { mkTI Tryz.t127 Tryz.t127 with row := none }) : Nat × TI), ((128, { mkTI Tryz.t128 Tryz.t128 with row := none }) : Nat × TI), ((129, { mkTI Tryz.t129 Tryz.t129 with row := none }) : Nat × TI), ((130, { mkTI Tryz.t130 Tryz.t130 with row := none }) : Nat × TI), ((131, { mkTI Tryz.t131 Tryz.t131 with row := none }) : Nat × TI), ((132, { mkTI Tryz.t132 Tryz.t131 with row := none }) : Nat × TI), ((133, { mkTI Tryz.t133 Tryz.t133 with row := none }) : Nat × TI), ((134, { mkTI Tryz.t134 Tryz.t134 with row := none }) : Nat × TI), ((135, { mkTI Tryz.t135 Tryz.t135 with row := none }) : Nat × TI), ((136, { mkTI Tryz.t136 Tryz.t136 with row := none }) : Nat × TI), ((137, { mkTI Tryz.t137 Tryz.t137 with row := none }) : Nat × TI), ((138, { mkTI Tryz.t138 Tryz.t138 with row := none }) : Nat × TI), ((139, { mkTI Tryz.t139 Tryz.t139 with row := none }) : Nat × TI), ((140, { mkTI Tryz.t140 Tryz.t140 with row := none }) : Nat × TI), ((141, { mkTI Tryz.t141 Tryz.t141 with row := none }) : Nat × TI), ((142, { mkTI Tryz.t142 Tryz.t142 with row := none }) : Nat × TI), ((143, { mkTI Tryz.t143 Tryz.t143 with row := none }) : Nat × TI), ((144, { mkTI Tryz.t144 Tryz.t144 with row := none }) : Nat × TI), ((145, { mkTI Tryz.t145 Tryz.t144 with row := none }) : Nat × TI), ((146, { mkTI Tryz.t146 Tryz.t146 with row := none }) : Nat × TI), ((147, { mkTI Tryz.t147 Tryz.t146 with row := none }) : Nat × TI), ((149, { mkTI Tryz.t149 Tryz.t149 with row := none }) : Nat × TI), ((150, { mkTI Tryz.t150 Tryz.t149 with row := some [.int .i64, .int .i64, .int .i64, .int .i64, .int .i64, .int .i64, .int .i64, .int .i64, .int .i64, .int .i64, .int .i64, .int .i64, .int .i64, .int .i64, .int .i64, .int .i64] }) : Nat × TI), ((151, { mkTI Tryz.t151 Tryz.t151 with row := none }) : Nat × TI), ((152, { mkTI Tryz.t152 Tryz.t151 with row := some [.int .i64, .int .i64] }) : Nat × TI), ((153, { mkTI Tryz.t153 Tryz.t153 with row := none }) : Nat × TI), ((154, { mkTI Tryz.t154 Tryz.t154 with row := none }) : Nat × TI), ((155, { mkTI Tryz.t155 Tryz.t155 with row := none }) : Nat × TI), ((156, { mkTI Tryz.t156 Tryz.t156 with row := none }) : Nat × TI), ((157, { mkTI Tryz.t157 Tryz.t157 with row := none }) : Nat × TI), ((158, { mkTI Tryz.t158 Tryz.t158 with row := none }) : Nat × TI), ((159, { mkTI Tryz.t159 Tryz.t159 with row := none }) : Nat × TI), ((160, { mkTI Tryz.t160 Tryz.t160 with row := none }) : Nat × TI), ((161, { mkTI Tryz.t161 Tryz.t161 with row := none }) : Nat × TI), ((162, { mkTI Tryz.t162 Tryz.t162 with row := none }) : Nat × TI), ((163, { mkTI Tryz.t163 Tryz.t163 with row := none }) : Nat × TI), ((164, { mkTI Tryz.t164 Tryz.t164 with row := none }) : Nat × TI), ((165, { mkTI Tryz.t165 Tryz.t165 with row := none }) : Nat × TI), ((166, { mkTI Tryz.t166 Tryz.t166 with row := none }) : Nat × TI), ((167, { mkTI Tryz.t167 Tryz.t167 with row := none }) : Nat × TI), ((168, { mkTI Tryz.t168 Tryz.t168 with row := none }) : Nat × TI), ((169, { mkTI Tryz.t169 Tryz.t168 with row := none }) : Nat × TI), ((171, { mkTI Tryz.t171 Tryz.t171 with row := none }) : Nat × TI), ((172, { mkTI Tryz.t172 Tryz.t172 with row := none }) : Nat × TI), ((173, { mkTI Tryz.t173 Tryz.t173 with row := none }) : Nat × TI), ((174, { mkTI Tryz.t174 Tryz.t174 with row := none }) : Nat × TI), ((175, { mkTI Tryz.t175 Tryz.t175 with row := none }) : Nat × TI), ((176, { mkTI Tryz.t176 Tryz.t176 with row := none }) : Nat × TI), ((177, { mkTI Tryz.t177 Tryz.t177 with row := none }) : Nat × TI), ((178, { mkTI Tryz.t178 Tryz.t178 with row := none }) : Nat × TI), ((179, { mkTI Tryz.t179 Tryz.t179 with row := none }) : Nat × TI), ((180, { mkTI Tryz.t180 Tryz.t180 with row := none }) : Nat × TI), ((181, { mkTI Tryz.t181 Tryz.t181 with row := none }) : Nat × TI), ((182, { mkTI Tryz.t182 Tryz.t182 with row := none }) : Nat × TI), ((183, { mkTI Tryz.t183 Tryz.t183 with row := none }) : Nat × TI), ((184, { mkTI Tryz.t184 Tryz.t184 with row := none }) : Nat × TI), ((185, { mkTI Tryz.t185 Tryz.t185 with row := none }) : Nat × TI), ((186, { mkTI Tryz.t186 Tryz.t186 with row := none }) : Nat × TI), ((187, { mkTI Tryz.t187 Tryz.t187 with row := none }) : Nat × TI), ((188, { mkTI Tryz.t188 Tryz.t188 with row := none }) : Nat × TI), ((189, { mkTI Tryz.t189 Tryz.t189 with row := none }) : Nat × TI), ((190, { mkTI Tryz.t190 Tryz.t190 with row := none }) : Nat × TI), ((191, { mkTI Tryz.t191 Tryz.t191 with row := none }) : Nat × TI), ((192, { mkTI Tryz.t192 Tryz.t192 with row := none }) : Nat × TI), ((194, { mkTI Tryz.t194 Tryz.t194 with row := none }) : Nat × TI), ((195, { mkTI Tryz.t195 Tryz.t195 with row := none }) : Nat × TI), ((196, { mkTI Tryz.t196 Tryz.t196 with row := none }) : Nat × TI), ((197, { mkTI Tryz.t197 Tryz.t197 with row := none }) : Nat × TI), ((198, { mkTI Tryz.t198 Tryz.t198 with row := none }) : Nat × TI), ((199, { mkTI Tryz.t199 Tryz.t198 with row := none }) : Nat × TI), ((200, { mkTI Tryz.t200 Tryz.t200 with row := none }) : Nat × TI), ((201, { mkTI Tryz.t201 Tryz.t200 with row := none }) : Nat × TI), ((203, { mkTI Tryz.t203 Tryz.t203 with row := none }) : Nat × TI), ((204, { mkTI Tryz.t204 Tryz.t204 with row := none }) : Nat × TI), ((205, { mkTI Tryz.t205 Tryz.t205 with row := none }) : Nat × TI), ((206, { mkTI Tryz.t206 Tryz.t206 with row := none }) : Nat × TI), ((207, { mkTI Tryz.t207 Tryz.t207 with row := none }) : Nat × TI), ((208, { mkTI Tryz.t208 Tryz.t208 with row := none }) : Nat × TI), ((209, { mkTI Tryz.t209 Tryz.t209 with row := none }) : Nat × TI), ((211, { mkTI Tryz.t211 Tryz.t211 with row := none }) : Nat × TI), ((212, { mkTI Tryz.t212 Tryz.t212 with row := none }) : Nat × TI), ((214, { mkTI Tryz.t214 Tryz.t214 with row := none }) : Nat × TI), ((216, { mkTI Tryz.t216 Tryz.t216 with row := none }) : Nat × TI), ((217, { mkTI Tryz.t217 Tryz.t217 with row := none }) : Nat × TI), ((218, { mkTI Tryz.t218 Tryz.t218 with row := none }) : Nat × TI), ((219, { mkTI Tryz.t219 Tryz.t219 with row := none }) : Nat × TI), ((220, { mkTI Tryz.t220 Tryz.t220 with row := none }) : Nat × TI), ((221, { mkTI Tryz.t221 Tryz.t221 with row := none }) : Nat × TI), ((222, { mkTI Tryz.t222 Tryz.t222 with row := none }) : Nat × TI), ((223, { mkTI Tryz.t223 Tryz.t223 with row := none }) : Nat × TI), ((224, { mkTI Tryz.t224 Tryz.t224 with row := none }) : Nat × TI), ((225, { mkTI Tryz.t225 Tryz.t225 with row := none }) : Nat × TI), ((226, { mkTI Tryz.t226 Tryz.t226 with row := none }) : Nat × TI), ((227, { mkTI Tryz.t227 Tryz.t227 with row := none }) : Nat × TI), ((228, { mkTI Tryz.t228 Tryz.t228 with row := none }) : Nat × TI), ((229, { mkTI Tryz.t229 Tryz.t229 with row := none }) : Nat × TI), ((230, { mkTI Tryz.t230 Tryz.t230 with row := none }) : Nat × TI), ((231, { mkTI Tryz.t231 Tryz.t230 with row := none }) : Nat × TI), ((232, { mkTI Tryz.t232 Tryz.t232 with row := none }) : Nat × TI), ((233, { mkTI Tryz.t233 Tryz.t233 with row := none }) : Nat × TI), ((234, { mkTI Tryz.t234 Tryz.t233 with row := none }) : Nat × TI), ((235, { mkTI Tryz.t235 Tryz.t5 with row := none }) : Nat × TI), ((236, { mkTI Tryz.t236 Tryz.t5 with row := none }) : Nat × TI), ((237, { mkTI Tryz.t237 Tryz.t237 with row := none }) : Nat × TI), ((238, { mkTI Tryz.t238 Tryz.t21 with row := none }) : Nat × TI), ((239, { mkTI Tryz.t239 Tryz.t21 with row := none }) : Nat × TI), ((240, { mkTI Tryz.t240 Tryz.t240 with row := none }) : Nat × TI), ((241, { mkTI Tryz.t241 Tryz.t240 with row := none }) : Nat × TI)]
noncomputable def fns : List (Nat × Func) := [(2, Tryz.f2), (3, Tryz.f3), (4, Tryz.f4), (5, Tryz.f5), (6, Tryz.f6), (7, Tryz.f7), (8, Tryz.f8), (9, Tryz.f9), (10, Tryz.f10), (11, Tryz.f11), (12, Tryz.f12), (13, Tryz.f13), (14, Tryz.f14), (15, Tryz.f15), (16, Tryz.f16), (17, Tryz.f17), (18, Tryz.f18), (19, Tryz.f19), (20, Tryz.f20), (21, Tryz.f21), (22, Tryz.f22), (23, Tryz.f23), (24, Tryz.f24), (25, Tryz.f25), (26, Tryz.f26), (27, Tryz.f27), (28, Tryz.f28), (29, Tryz.f29), (30, Tryz.f30), (31, Tryz.f31), (32, Tryz.f32), (33, Tryz.f33), (34, Tryz.f34), (35, Tryz.f35), (36, Tryz.f36), (37, Tryz.f37), (38, Tryz.f38), (39, Tryz.f39), (40, Tryz.f40), (41, Tryz.f41), (42, Tryz.f42), (43, Tryz.f43), (44, Tryz.f44), (45, Tryz.f45), (46, Tryz.f46), (47, Tryz.f47), (48, Tryz.f48), (49, Tryz.f49), (50, Tryz.f50), (51, Tryz.f51), (52, Tryz.f52), (53, Tryz.f53), (54, Tryz.f54), (55, Tryz.f55), (56, Tryz.f56), (57, Tryz.f57), (58, Tryz.f58), (59, Tryz.f59), (60, Tryz.f60), (61, Tryz.f61), (62, Tryz.f62), (63, Tryz.f63), (64, Tryz.f64), (65, Tryz.f65), (66, Tryz.f66), (67, Tryz.f67), (68, Tryz.f68), (69, Tryz.f69), (70, Tryz.f70), (71, Tryz.f71), (72, Tryz.f72), (73, Tryz.f73), (74, Tryz.f74), (75, Tryz.f75), (76, Tryz.f76), (77, Tryz.f77), (78, Tryz.f78), (79, Tryz.f79), (80, Tryz.f80), (81, Tryz.f81), (82, Tryz.f82), (83, Tryz.f83), (84, Tryz.f84), (85, Tryz.f85), (86, Tryz.f86), (87, Tryz.f87), (88, Tryz.f88), (89, Tryz.f89), (90, Tryz.f90), (91, Tryz.f91), (92, Tryz.f92), (93, Tryz.f93), (94, Tryz.f94), (95, Tryz.f95), (96, Tryz.f96), (97, Tryz.f97), (98, Tryz.f98), (99, Tryz.f99), (100, Tryz.f100), (101, Tryz.f101), (102, Tryz.f102), (103, Tryz.f103), (104, Tryz.f104), (105, Tryz.f105), (106, Tryz.f106), (107, Tryz.f107), (108, Tryz.f108), (109, Tryz.f109), (110, Tryz.f110), (111, Tryz.f111), (112, Tryz.f112), (113, Tryz.f113), (114, Tryz.f114), (115, Tryz.f115), (116, Tryz.f116), (117, Tryz.f117), (118, Tryz.f118), (119, Tryz.f119), (120, Tryz.f120), (121, Tryz.f121), (122, Tryz.f122), (123, Tryz.f123), (124, Tryz.f124), (125, Tryz.f125), (126, Tryz.f126), (127, Tryz.f127), (128, Tryz.f128), (129, Tryz.f129), (130, Tryz.f130), (131, Tryz.f131), (132, Tryz.f132), (133, Tryz.f133), (134, Tryz.f134), (135, Tryz.f135), (136, Tryz.f136), (137, Tryz.f137), (138, Tryz.f138), (139, Tryz.f139), (140, Tryz.f140), (141, Tryz.f141), (142, Tryz.f142), (143, Tryz.f143), (144, Tryz.f144), (145, Tryz.f145), (146, Tryz.f146), (147, Tryz.f147), (148, Tryz.f148), (149, Tryz.f149), (150, Tryz.f150), (151, Tryz.f151), (152, Tryz.f152), (153, Tryz.f153), (154, Tryz.f154), (155, Tryz.f155), (156, Tryz.f156), (157, Tryz.f157), (160, Tryz.f160), (161, Tryz.f161), (184, Tryz.f184)]
noncomputable def cx : Cx := { P := prog, tab := tab, fns := fns }
noncomputable def tabS9 : Tab := []
theorem tabS9_ok : TabOk prog tabS9 := TabOk.nil _
noncomputable def tabS8 : Tab := ((217, { mkTI Tryz.t217 Tryz.t217 with row := none }) : Nat × TI) :: ((218, { mkTI Tryz.t218 Tryz.t218 with row := none }) : Nat × TI) :: ((219, { mkTI Tryz.t219 Tryz.t219 with row := none }) : Nat × TI) :: ((220, { mkTI Tryz.t220 Tryz.t220 with row := none }) : Nat × TI) :: ((221, { mkTI Tryz.t221 Tryz.t221 with row := none }) : Nat × TI) :: ((222, { mkTI Tryz.t222 Tryz.t222 with row := none }) : Nat × TI) :: ((223, { mkTI Tryz.t223 Tryz.t223 with row := none }) : Nat × TI) :: ((224, { mkTI Tryz.t224 Tryz.t224 with row := none }) : Nat × TI) :: ((225, { mkTI Tryz.t225 Tryz.t225 with row := none }) : Nat × TI) :: ((226, { mkTI Tryz.t226 Tryz.t226 with row := none }) : Nat × TI) :: ((227, { mkTI Tryz.t227 Tryz.t227 with row := none }) : Nat × TI) :: ((228, { mkTI Tryz.t228 Tryz.t228 with row := none }) : Nat × TI) :: ((229, { mkTI Tryz.t229 Tryz.t229 with row := none }) : Nat × TI) :: ((230, { mkTI Tryz.t230 Tryz.t230 with row := none }) : Nat × TI) :: ((231, { mkTI Tryz.t231 Tryz.t230 with row := none }) : Nat × TI) :: ((232, { mkTI Tryz.t232 Tryz.t232 with row := none }) : Nat × TI) :: ((233, { mkTI Tryz.t233 Tryz.t233 with row := none }) : Nat × TI) :: ((234, { mkTI Tryz.t234 Tryz.t233 with row := none }) : Nat × TI) :: ((235, { mkTI Tryz.t235 Tryz.t5 with row := none }) : Nat × TI) :: ((236, { mkTI Tryz.t236 Tryz.t5 with row := none }) : Nat × TI) :: ((237, { mkTI Tryz.t237 Tryz.t237 with row := none }) : Nat × TI) :: ((238, { mkTI Tryz.t238 Tryz.t21 with row := none }) : Nat × TI) :: ((239, { mkTI Tryz.t239 Tryz.t21 with row := none }) : Nat × TI) :: ((240, { mkTI Tryz.t240 Tryz.t240 with row := none }) : Nat × TI) :: ((241, { mkTI Tryz.t241 Tryz.t240 with row := none }) : Nat × TI) :: tabS9
theorem tabS8_ok : TabOk prog tabS8 := by
  unfold tabS8
  refine TabOk.consR type217 underlying217 (by kernel_rfl) (by kernel_rfl) ?_
  refine TabOk.consR type218 underlying218 (by kernel_rfl) (by kernel_rfl) ?_
  refine TabOk.consR type219 underlying219 (by kernel_rfl) (by kernel_rfl) ?_
  refine TabOk.consR type220 underlying220 (by kernel_rfl) (by kernel_rfl) ?_
  refine TabOk.consR type221 underlying221 (by kernel_rfl) (by kernel_rfl) ?_
  refine TabOk.consR type222 underlying222 (by kernel_rfl) (by kernel_rfl) ?_
  refine TabOk.consR type223 underlying223 (by kernel_rfl) (by kernel_rfl) ?_
  refine TabOk.consR type224 underlying224 (by kernel_rfl) (by kernel_rfl) ?_
  refine TabOk.consR type225 underlying225 (by kernel_rfl) (by kernel_rfl) ?_
  refine TabOk.consR type226 underlying226 (by kernel_rfl) (by kernel_rfl) ?_
  refine TabOk.consR type227 underlying227 (by kernel_rfl) (by kernel_rfl) ?_
  refine TabOk.consR type228 underlying228 (by kernel_rfl) (by kernel_rfl) ?_
  refine TabOk.consR type229 underlying229 (by kernel_rfl) (by kernel_rfl) ?_
  refine TabOk.consR type230 underlying230 (by kernel_rfl) (by kernel_rfl) ?_
  refine TabOk.consR type231 underlying231 (by kernel_rfl) (by kernel_rfl) ?_
  refine TabOk.consR type232 underlying232 (by kernel_rfl) (by kernel_rfl) ?_
  refine TabOk.consR type233 underlying233 (by kernel_rfl) (by kernel_rfl) ?_
  refine TabOk.consR type234 underlying234 (by kernel_rfl) (by kernel_rfl) ?_
  refine TabOk.consR type235 underlying235 (by kernel_rfl) (by kernel_rfl) ?_
  refine TabOk.consR type236 underlying236 (by kernel_rfl) (by kernel_rfl) ?_
  refine TabOk.consR type237 underlying237 (by kernel_rfl) (by kernel_rfl) ?_
  refine TabOk.consR type238 underlying238 (by kernel_rfl) (by kernel_rfl) ?_
  refine TabOk.consR type239 underlying239 (by kernel_rfl) (by kernel_rfl) ?_
  refine TabOk.consR type240 underlying240 (by kernel_rfl) (by kernel_rfl) ?_
  refine TabOk.consR type241 underlying241 (by kernel_rfl) (by kernel_rfl) ?_
  exact tabS9_ok
noncomputable def tabS7 : Tab := ((187, { mkTI Tryz.t187 Tryz.t187 with row := none }) : Nat × TI) :: ((188, { mkTI Tryz.t188 Tryz.t188 with row := none }) : Nat × TI) :: ((189, { mkTI Tryz.t189 Tryz.t189 with row := none }) : Nat × TI) :: ((190, { mkTI Tryz.t190 Tryz.t190 with row := none }) : Nat × TI) :: ((191, { mkTI Tryz.t191 Tryz.t191 with row := none }) : Nat × TI) :: ((192, { mkTI Tryz.t192 Tryz.t192 with row := none }) : Nat × TI) :: ((194, { mkTI Tryz.t194 Tryz.t194 with row := none }) : Nat × TI) :: ((195, { mkTI Tryz.t195 Tryz.t195 with row := none }) : Nat × TI) :: ((196, { mkTI Tryz.t196 Tryz.t196 with row := none }) : Nat × TI) :: ((197, { mkTI Tryz.t197 Tryz.t197 with row := none }) : Nat × TI) :: ((198, { mkTI Tryz.t198 Tryz.t198 with row := none }) : Nat × TI) :: ((199, { mkTI Tryz.t199 Tryz.t198 with row := none }) : Nat × TI) :: ((200, { mkTI Tryz.t200 Tryz.t200 with row := none }) : Nat × TI) :: ((201, { mkTI Tryz.t201 Tryz.t200 with row := none }) : Nat × TI) :: ((203, { mkTI Tryz.t203 Tryz.t203 with row := none }) : Nat × TI) :: ((204, { mkTI Tryz.t204 Tryz.t204 with row := none }) : Nat × TI) :: ((205, { mkTI Tryz.t205 Tryz.t205 with row := none }) : Nat × TI) :: ((206, { mkTI Tryz.t206 Tryz.t206 with row := none }) : Nat × TI) :: ((207, { mkTI Tryz.t207 Tryz.t207 with row := none }) : Nat × TI) :: ((208, { mkTI Tryz.t208 Tryz.t208 with row := none }) : Nat × TI) :: ((209, { mkTI Tryz.t209 Tryz.t209 with row := none }) : Nat × TI) :: ((211, { mkTI Tryz.t211 Tryz.t211 with row := none }) : Nat × TI) :: ((212, { mkTI Tryz.t212 Tryz.t212 with row := none }) : Nat × TI) :: ((214, { mkTI Tryz.t214 Tryz.t214 with row := none }) : Nat × TI) :: ((216, { mkTI Tryz.t216 Tryz.t216 with row := none }) : Nat × TI) :: tabS8
theorem tabS7_ok : TabOk prog tabS7 := by
  unfold tabS7
  refine TabOk.consR type187 underlying187 (by kernel_rfl) (by kernel_rfl) ?_
  refine TabOk.consR type188 underlying188 (by kernel_rfl) (by kernel_rfl) ?_
  refine TabOk.consR type189 underlying189 (by kernel_rfl) (by kernel_rfl) ?_
  refine TabOk.consR type190 underlying190 (by kernel_rfl) (by kernel_rfl) ?_
  refine TabOk.consR type191 underlying191 (by kernel_rfl) (by kernel_rfl) ?_
  refine TabOk.consR type192 underlying192 (by kernel_rfl) (by kernel_rfl) ?_
  refine TabOk.consR type194 underlying194 (by kernel_rfl) (by kernel_rfl) ?_
  refine TabOk.consR type195 underlying195 (by kernel_rfl) (by kernel_rfl) ?_
  refine TabOk.consR type196 underlying196 (by kernel_rfl) (by kernel_rfl) ?_
  refine TabOk.consR type197 underlying197 (by kernel_rfl) (by kernel_rfl) ?_
  refine TabOk.consR type198 underlying198 (by kernel_rfl) (by kernel_rfl) ?_
  refine TabOk.consR type199 underlying199 (by kernel_rfl) (by kernel_rfl) ?_
  refine TabOk.consR type200 underlying200 (by kernel_rfl) (by kernel_rfl) ?_
  refine TabOk.consR type201 underlying201 (by kernel_rfl) (by kernel_rfl) ?_
  refine TabOk.consR type203 underlying203 (by kernel_rfl) (by kernel_rfl) ?_
  refine TabOk.consR type204 underlying204 (by kernel_rfl) (by kernel_rfl) ?_
  refine TabOk.consR type205 underlying205 (by kernel_rfl) (by kernel_rfl) ?_
  refine TabOk.consR type206 underlying206 (by kernel_rfl) (by kernel_rfl) ?_
  refine TabOk.consR type207 underlying207 (by kernel_rfl) (by kernel_rfl) ?_
  refine TabOk.consR type208 underlying208 (by kernel_rfl) (by kernel_rfl) ?_
  refine TabOk.consR type209 underlying209 (by kernel_rfl) (by kernel_rfl) ?_
  refine TabOk.consR type211 underlying211 (by kernel_rfl) (by kernel_rfl) ?_
  refine TabOk.consR type212 underlying212 (by kernel_rfl) (by kernel_rfl) ?_
  refine TabOk.consR type214 underlying214 (by kernel_rfl) (by kernel_rfl) ?_
  refine TabOk.consR type216 underlying216 (by kernel_rfl) (by kernel_rfl) ?_
  exact tabS8_ok
noncomputable def tabS6 : Tab := ((161, { mkTI Tryz.t161 Tryz.t161 with row := none }) : Nat × TI) :: ((162, { mkTI Tryz.t162 Tryz.t162 with row := none }) : Nat × TI) :: ((163, { mkTI Tryz.t163 Tryz.t163 with row := none }) : Nat × TI) :: ((164, { mkTI Tryz.t164 Tryz.t164 with row := none }) : Nat × TI) :: ((165, { mkTI Tryz.t165 Tryz.t165 with row := none }) : Nat × TI) :: ((166, { mkTI Tryz.t166 Tryz.t166 with row := none }) : Nat × TI) :: ((167, { mkTI Tryz.t167 Tryz.t167 with row := none }) : Nat × TI) :: ((168, { mkTI Tryz.t168 Tryz.t168 with row := none }) : Nat × TI) :: ((169, { mkTI Tryz.t169 Tryz.t168 with row := none }) : Nat × TI) :: ((171, { mkTI Tryz.t171 Tryz.t171 with row := none }) : Nat × TI) :: ((172, { mkTI Tryz.t172 Tryz.t172 with row := none }) : Nat × TI) :: ((173, { mkTI Tryz.t173 Tryz.t173 with row := none }) : Nat × TI) :: ((174, { mkTI Tryz.t174 Tryz.t174 with row := none }) : Nat × TI) :: ((175, { mkTI Tryz.t175 Tryz.t175 with row := none }) : Nat × TI) :: ((176, { mkTI Tryz.t176 Tryz.t176 with row := none }) : Nat × TI) :: ((177, { mkTI Tryz.t177 Tryz.t177 with row := none }) : Nat × TI) :: ((178, { mkTI Tryz.t178 Tryz.t178 with row := none }) : Nat × TI) :: ((179, { mkTI Tryz.t179 Tryz.t179 with row := none }) : Nat × TI) :: ((180, { mkTI Tryz.t180 Tryz.t180 with row := none }) : Nat × TI) :: ((181, { mkTI Tryz.t181 Tryz.t181 with row := none }) : Nat × TI) :: ((182, { mkTI Tryz.t182 Tryz.t182 with row := none }) : Nat × TI) :: ((183, { mkTI Tryz.t183 Tryz.t183 with row := none }) : Nat × TI) :: ((184, { mkTI Tryz.t184 Tryz.t184 with row := none }) : Nat × TI) :: ((185, { mkTI Tryz.t185 Tryz.t185 with row := none }) : Nat × TI) :: ((186, { mkTI Tryz.t186 Tryz.t186 with row := none }) : Nat × TI) :: tabS7
theorem tabS6_ok : TabOk prog tabS6 := by
  unfold tabS6
  refine TabOk.consR type161 underlying161 (by kernel_rfl) (by kernel_rfl) ?_
  refine TabOk.consR type162 underlying162 (by kernel_rfl) (by kernel_rfl) ?_
  refine TabOk.consR type163 underlying163 (by kernel_rfl) (by kernel_rfl) ?_
  refine TabOk.consR type164 underlying164 (by kernel_rfl) (by kernel_rfl) ?_
  refine TabOk.consR type165 underlying165 (by kernel_rfl) (by kernel_rfl) ?_
  refine TabOk.consR type166 underlying166 (by kernel_rfl) (by kernel_rfl) ?_
  refine TabOk.consR type167 underlying167 (by kernel_rfl) (by kernel_rfl) ?_
  refine TabOk.consR type168 underlying168 (by kernel_rfl) (by kernel_rfl) ?_
  refine TabOk.consR type169 underlying169 (by kernel_rfl) (by kernel_rfl) ?_
  refine TabOk.consR type171 underlying171 (by kernel_rfl) (by kernel_rfl) ?_
  refine TabOk.consR type172 underlying172 (by kernel_rfl) (by kernel_rfl) ?_
  refine TabOk.consR type173 underlying173 (by kernel_rfl) (by kernel_rfl) ?_
  refine TabOk.consR type174 underlying174 (by kernel_rfl) (by kernel_rfl) ?_
  refine TabOk.consR type175 underlying175 (by kernel_rfl) (by kernel_rfl) ?_
  refine TabOk.consR type176 underlying176 (by kernel_rfl) (by kernel_rfl) ?_
  refine TabOk.consR type177 underlying177 (by kernel_rfl) (by kernel_rfl) ?_
  refine TabOk.consR type178 underlying178 (by kernel_rfl) (by kernel_rfl) ?_
  refine TabOk.consR type179 underlying179 (by kernel_rfl) (by kernel_rfl) ?_
  refine TabOk.consR type180 underlying180 (by kernel_rfl) (by kernel_rfl) ?_
  refine TabOk.consR type181 underlying181 (by kernel_rfl) (by kernel_rfl) ?_
  refine TabOk.consR type182 underlying182 (by kernel_rfl) (by kernel_rfl) ?_
  refine TabOk.consR type183 underlying183 (by kernel_rfl) (by kernel_rfl) ?_
  refine TabOk.consR type184 underlying184 (by kernel_rfl) (by kernel_rfl) ?_
  refine TabOk.consR type185 underlying185 (by kernel_rfl) (by kernel_rfl) ?_
  refine TabOk.consR type186 underlying186 (by kernel_rfl) (by kernel_rfl) ?_
  exact tabS7_ok
noncomputable def tabS5 : Tab := ((135, { mkTI Tryz.t135 Tryz.t135 with row := none }) : Nat × TI) :: ((136, { mkTI Tryz.t136 Tryz.t136 with row := none }) : Nat × TI) :: ((137, { mkTI Tryz.t137 Tryz.t137 with row := none }) : Nat × TI) :: ((138, { mkTI Tryz.t138 Tryz.t138 with row := none }) : Nat × TI) :: ((139, { mkTI Tryz.t139 Tryz.t139 with row := none }) : Nat × TI) :: ((140, { mkTI Tryz.t140 Tryz.t140 with row := none }) : Nat × TI) :: ((141, { mkTI Tryz.t141 Tryz.t141 with row := none }) : Nat × TI) :: ((142, { mkTI Tryz.t142 Tryz.t142 with row := none }) : Nat × TI) :: ((143, { mkTI Tryz.t143 Tryz.t143 with row := none }) : Nat × TI) :: ((144, { mkTI Tryz.t144 Tryz.t144 with row := none }) : Nat × TI) :: ((145, { mkTI Tryz.t145 Tryz.t144 with row := none }) : Nat × TI) :: ((146, { mkTI Tryz.t146 Tryz.t146 with row := none }) : Nat × TI) :: ((147, { mkTI Tryz.t147 Tryz.t146 with row := none }) : Nat × TI) :: ((149, { mkTI Tryz.t149 Tryz.t149 with row := none }) : Nat × TI) :: ((150, { mkTI Tryz.t150 Tryz.t149 with row := some [.int .i64, .int .i64, .int .i64, .int .i64, .int .i64, .int .i64, .int .i64, .int .i64, .int .i64, .int .i64, .int .i64, .int .i64, .int .i64, .int .i64, .int .i64, .int .i64] }) : Nat × TI) :: ((151, { mkTI Tryz.t151 Tryz.t151 with row := none }) : Nat × TI) :: ((152, { mkTI Tryz.t152 Tryz.t151 with row := some [.int .i64, .int .i64] }) : Nat × TI) :: ((153, { mkTI Tryz.t153 Tryz.t153 with row := none }) : Nat × TI) :: ((154, { mkTI Tryz.t154 Tryz.t154 with row := none }) : Nat × TI) :: ((155, { mkTI Tryz.t155 Tryz.t155 with row := none }) : Nat × TI) :: ((156, { mkTI Tryz.t156 Tryz.t156 with row := none }) : Nat × TI) :: ((157, { mkTI Tryz.t157 Tryz.t157 with row := none }) : Nat × TI) :: ((158, { mkTI Tryz.t158 Tryz.t158 with row := none }) : Nat × TI) :: ((159, { mkTI Tryz.t159 Tryz.t159 with row := none }) : Nat × TI) :: ((160, { mkTI Tryz.t160 Tryz.t160 with row := none }) : Nat × TI) :: tabS6
theorem tabS5_ok : TabOk prog tabS5 := by
  unfold tabS5
  refine TabOk.consR type135 underlying135 (by kernel_rfl) (by kernel_rfl) ?_
  refine TabOk.consR type136 underlying136 (by kernel_rfl) (by kernel_rfl) ?_
  refine TabOk.consR type137 underlying137 (by kernel_rfl) (by kernel_rfl) ?_
  refine TabOk.consR type138 underlying138 (by kernel_rfl) (by kernel_rfl) ?_
  refine TabOk.consR type139 underlying139 (by kernel_rfl) (by kernel_rfl) ?_
  refine TabOk.consR type140 underlying140 (by kernel_rfl) (by kernel_rfl) ?_
  refine TabOk.consR type141 underlying141 (by kernel_rfl) (by kernel_rfl) ?_
  refine TabOk.consR type142 underlying142 (by kernel_rfl) (by kernel_rfl) ?_
  refine TabOk.consR type143 underlying143 (by kernel_rfl) (by kernel_rfl) ?_
  refine TabOk.consR type144 underlying144 (by kernel_rfl) (by kernel_rfl) ?_
  refine TabOk.consR type145 underlying145 (by kernel_rfl) (by kernel_rfl) ?_
  refine TabOk.consR type146 underlying146 (by kernel_rfl) (by kernel_rfl) ?_
  refine TabOk.consR type147 underlying147 (by kernel_rfl) (by kernel_rfl) ?_
  refine TabOk.consR type149 underlying149 (by kernel_rfl) (by kernel_rfl) ?_
  refine TabOk.consR type150 underlying150 (by kernel_rfl) (by kernel_rfl) ?_
  refine TabOk.consR type151 underlying151 (by kernel_rfl) (by kernel_rfl) ?_
  refine TabOk.consR type152 underlying152 (by kernel_rfl) (by kernel_rfl) ?_
  refine TabOk.consR type153 underlying153 (by kernel_rfl) (by kernel_rfl) ?_
  refine TabOk.consR type154 underlying154 (by kernel_rfl) (by kernel_rfl) ?_
  refine TabOk.consR type155 underlying155 (by kernel_rfl) (by kernel_rfl) ?_
  refine TabOk.consR type156 underlying156 (by kernel_rfl) (by kernel_rfl) ?_
  refine TabOk.consR type157 underlying157 (by kernel_rfl) (by kernel_rfl) ?_
  refine TabOk.consR type158 underlying158 (by kernel_rfl) (by kernel_rfl) ?_
  refine TabOk.consR type159 underlying159 (by kernel_rfl) (by kernel_rfl) ?_
  refine TabOk.consR type160 underlying160 (by kernel_rfl) (by kernel_rfl) ?_
  exact tabS6_ok
noncomputable def tabS4 : Tab := ((109, { mkTI Tryz.t109 Tryz.t109 with row := none }) : Nat × TI) :: ((110, { mkTI Tryz.t110 Tryz.t110 with row := none }) : Nat × TI) :: ((111, { mkTI Tryz.t111 Tryz.t111 with row := none }) : Nat × TI) :: ((112, { mkTI Tryz.t112 Tryz.t112 with row := some [.seq [.str, .str, .int .i64, .str]] }) : Nat × TI) :: ((114, { mkTI Tryz.t114 Tryz.t114 with row := none }) : Nat × TI) :: ((115, { mkTI Tryz.t115 Tryz.t115 with row := none }) : Nat × TI) :: ((116, { mkTI Tryz.t116 Tryz.t116 with row := none }) : Nat × TI) :: ((117, { mkTI Tryz.t117 Tryz.t100 with row := some [.str, .str, .str, .int .i64, .str] }) : Nat × TI) :: ((118, { mkTI Tryz.t118 Tryz.t118 with row := none }) : Nat × TI) :: ((119, { mkTI Tryz.t119 Tryz.t119 with row := none }) : Nat × TI) :: ((120, { mkTI Tryz.t120 Tryz.t120 with row := none }) : Nat × TI) :: ((121, { mkTI Tryz.t121 Tryz.t121 with row := none }) : Nat × TI) :: ((122, { mkTI Tryz.t122 Tryz.t122 with row := none }) : Nat × TI) :: ((123, { mkTI Tryz.t123 Tryz.t123 with row := none }) : Nat × TI) :: ((124, { mkTI Tryz.t124 Tryz.t124 with row := none }) : Nat × TI) :: ((125, { mkTI Tryz.t125 Tryz.t125 with row := none }) : Nat × TI) :: ((126, { mkTI Tryz.t126 Tryz.t125 with row := none }) : Nat × TI) :: ((127, { mkTI Tryz.t127 Tryz.t127 with row := none }) : Nat × TI) :: ((128, { mkTI Tryz.t128 Tryz.t128 with row := none }) : Nat × TI) :: ((129, { mkTI Tryz.t129 Tryz.t129 with row := none }) : Nat × TI) :: ((130, { mkTI Tryz.t130 Tryz.t130 with row := none }) : Nat × TI) :: ((131, { mkTI Tryz.t131 Tryz.t131 with row := none }) : Nat × TI) :: ((132, { mkTI Tryz.t132 Tryz.t131 with row := none }) : Nat × TI) :: ((133, { mkTI Tryz.t133 Tryz.t133 with row := none }) : Nat × TI) :: ((134, { mkTI Tryz.t134 Tryz.t134 with row := none }) : Nat × TI) :: tabS5
theorem tabS4_ok : TabOk prog tabS4 := by
  unfold tabS4
  refine TabOk.consR type109 underlying109 (by kernel_rfl) (by kernel_rfl) ?_
  refine TabOk.consR type110 underlying110 (by kernel_rfl) (by kernel_rfl) ?_
  refine TabOk.consR type111 underlying111 (by kernel_rfl) (by kernel_rfl) ?_
  refine TabOk.consR type112 underlying112 (by kernel_rfl) (by kernel_rfl) ?_
  refine TabOk.consR type114 underlying114 (by kernel_rfl) (by kernel_rfl) ?_
  refine TabOk.consR type115 underlying115 (by kernel_rfl) (by kernel_rfl) ?_
  refine TabOk.consR type116 underlying116 (by kernel_rfl) (by kernel_rfl) ?_
  refine TabOk.consR type117 underlying117 (by kernel_rfl) (by kernel_rfl) ?_
  refine TabOk.consR type118 underlying118 (by kernel_rfl) (by kernel_rfl) ?_
  refine TabOk.consR type119 underlying119 (by kernel_rfl) (by kernel_rfl) ?_
  refine TabOk.consR type120 underlying120 (by kernel_rfl) (by kernel_rfl) ?_
  refine TabOk.consR type121 underlying121 (by kernel_rfl) (by kernel_rfl) ?_
  refine TabOk.consR type122 underlying122 (by kernel_rfl) (by kernel_rfl) ?_
  refine TabOk.consR type123 underlying123 (by kernel_rfl) (by kernel_rfl) ?_
  refine TabOk.consR type124 underlying124 (by kernel_rfl) (by kernel_rfl) ?_
  refine TabOk.consR type125 underlying125 (by kernel_rfl) (by kernel_rfl) ?_
  refine TabOk.consR type126 underlying126 (by kernel_rfl) (by kernel_rfl) ?_
  refine TabOk.consR type127 underlying127 (by kernel_rfl) (by kernel_rfl) ?_
  refine TabOk.consR type128 underlying128 (by kernel_rfl) (by kernel_rfl) ?_
  refine TabOk.consR type129 underlying129 (by kernel_rfl) (by kernel_rfl) ?_
  refine TabOk.consR type130 underlying130 (by kernel_rfl) (by kernel_rfl) ?_
  refine TabOk.consR type131 underlying131 (by kernel_rfl) (by kernel_rfl) ?_
  refine TabOk.consR type132 underlying132 (by kernel_rfl) (by kernel_rfl) ?_
  refine TabOk.consR type133 underlying133 (by kernel_rfl) (by kernel_rfl) ?_
  refine TabOk.consR type134 underlying134 (by kernel_rfl) (by kernel_rfl) ?_
  exact tabS5_ok
noncomputable def tabS3 : Tab := ((82, { mkTI Tryz.t82 Tryz.t82 with row := none }) : Nat × TI) :: ((83, { mkTI Tryz.t83 Tryz.t83 with row := none }) : Nat × TI) :: ((85, { mkTI Tryz.t85 Tryz.t85 with row := none }) : Nat × TI) :: ((86, { mkTI Tryz.t86 Tryz.t86 with row := none }) : Nat × TI) :: ((87, { mkTI Tryz.t87 Tryz.t87 with row := none }) : Nat × TI) :: ((88, { mkTI Tryz.t88 Tryz.t88 with row := none }) : Nat × TI) :: ((89, { mkTI Tryz.t89 Tryz.t89 with row := none }) : Nat × TI) :: ((90, { mkTI Tryz.t90 Tryz.t89 with row := some [.int .i64, .int .i64, .int .i64] }) : Nat × TI) :: ((91, { mkTI Tryz.t91 Tryz.t89 with row := some [.int .i64, .int .i64, .int .i64] }) : Nat × TI) :: ((92, { mkTI Tryz.t92 Tryz.t92 with row := none }) : Nat × TI) :: ((93, { mkTI Tryz.t93 Tryz.t93 with row := none }) : Nat × TI) :: ((94, { mkTI Tryz.t94 Tryz.t94 with row := none }) : Nat × TI) :: ((95, { mkTI Tryz.t95 Tryz.t95 with row := none }) : Nat × TI) :: ((96, { mkTI Tryz.t96 Tryz.t96 with row := none }) : Nat × TI) :: ((97, { mkTI Tryz.t97 Tryz.t97 with row := none }) : Nat × TI) :: ((98, { mkTI Tryz.t98 Tryz.t98 with row := none }) : Nat × TI) :: ((99, { mkTI Tryz.t99 Tryz.t99 with row := none }) : Nat × TI) :: ((100, { mkTI Tryz.t100 Tryz.t100 with row := none }) : Nat × TI) :: ((101, { mkTI Tryz.t101 Tryz.t100 with row := some [.str, .str, .str, .int .i64, .str] }) : Nat × TI) :: ((102, { mkTI Tryz.t102 Tryz.t102 with row := none }) : Nat × TI) :: ((103, { mkTI Tryz.t103 Tryz.t103 with row := none }) : Nat × TI) :: ((104, { mkTI Tryz.t104 Tryz.t104 with row := some [.seq [.str, .str, .int .i64, .str]] }) : Nat × TI) :: ((106, { mkTI Tryz.t106 Tryz.t106 with row := none }) : Nat × TI) :: ((107, { mkTI Tryz.t107 Tryz.t107 with row := none }) : Nat × TI) :: ((108, { mkTI Tryz.t108 Tryz.t108 with row := none }) : Nat × TI) :: tabS4
theorem tabS3_ok : TabOk prog tabS3 := by
  unfold tabS3
  refine TabOk.consR type82 underlying82 (by kernel_rfl) (by kernel_rfl) ?_
  refine TabOk.consR type83 underlying83 (by kernel_rfl) (by kernel_rfl) ?_
  refine TabOk.consR type85 underlying85 (by kernel_rfl) (by kernel_rfl) ?_
  refine TabOk.consR type86 underlying86 (by kernel_rfl) (by kernel_rfl) ?_
  refine TabOk.consR type87 underlying87 (by kernel_rfl) (by kernel_rfl) ?_
  refine TabOk.consR type88 underlying88 (by kernel_rfl) (by kernel_rfl) ?_
  refine TabOk.consR type89 underlying89 (by kernel_rfl) (by kernel_rfl) ?_
  refine TabOk.consR type90 underlying90 (by kernel_rfl) (by kernel_rfl) ?_
  refine TabOk.consR type91 underlying91 (by kernel_rfl) (by kernel_rfl) ?_
  refine TabOk.consR type92 underlying92 (by kernel_rfl) (by kernel_rfl) ?_
  refine TabOk.consR type93 underlying93 (by kernel_rfl) (by kernel_rfl) ?_
  refine TabOk.consR type94 underlying94 (by kernel_rfl) (by kernel_rfl) ?_
  refine TabOk.consR type95 underlying95 (by kernel_rfl) (by kernel_rfl) ?_
  refine TabOk.consR type96 underlying96 (by kernel_rfl) (by kernel_rfl) ?_
  refine TabOk.consR type97 underlying97 (by kernel_rfl) (by kernel_rfl) ?_
  refine TabOk.consR type98 underlying98 (by kernel_rfl) (by kernel_rfl) ?_
  refine TabOk.consR type99 underlying99 (by kernel_rfl) (by kernel_rfl) ?_
  refine TabOk.consR type100 underlying100 (by kernel_rfl) (by kernel_rfl) ?_
  refine TabOk.consR type101 underlying101 (by kernel_rfl) (by kernel_rfl) ?_
  refine TabOk.consR type102 underlying102 (by kernel_rfl) (by kernel_rfl) ?_
  refine TabOk.consR type103 underlying103 (by kernel_rfl) (by kernel_rfl) ?_
  refine TabOk.consR type104 underlying104 (by kernel_rfl) (by kernel_rfl) ?_
  refine TabOk.consR type106 underlying106 (by kernel_rfl) (by kernel_rfl) ?_
  refine TabOk.consR type107 underlying107 (by kernel_rfl) (by kernel_rfl) ?_
  refine TabOk.consR type108 underlying108 (by kernel_rfl) (by kernel_rfl) ?_
  exact tabS4_ok
noncomputable def tabS2 : Tab := ((54, { mkTI Tryz.t54 Tryz.t54 with row := none }) : Nat × TI) :: ((55, { mkTI Tryz.t55 Tryz.t55 with row := none }) : Nat × TI) :: ((56, { mkTI Tryz.t56 Tryz.t56 with row := none }) : Nat × TI) :: ((57, { mkTI Tryz.t57 Tryz.t57 with row := none }) : Nat × TI) :: ((58, { mkTI Tryz.t58 Tryz.t58 with row := none }) : Nat × TI) :: ((59, { mkTI Tryz.t59 Tryz.t59 with row := none }) : Nat × TI) :: ((60, { mkTI Tryz.t60 Tryz.t60 with row := none }) : Nat × TI) :: ((62, { mkTI Tryz.t62 Tryz.t62 with row := none }) : Nat × TI) :: ((63, { mkTI Tryz.t63 Tryz.t63 with row := none }) : Nat × TI) :: ((64, { mkTI Tryz.t64 Tryz.t64 with row := none }) : Nat × TI) :: ((65, { mkTI Tryz.t65 Tryz.t65 with row := none }) : Nat × TI) :: ((66, { mkTI Tryz.t66 Tryz.t65 with row := none }) : Nat × TI) :: ((67, { mkTI Tryz.t67 Tryz.t67 with row := none }) : Nat × TI) :: ((68, { mkTI Tryz.t68 Tryz.t67 with row := some [.str, .str, .int .i64, .str] }) : Nat × TI) :: ((69, { mkTI Tryz.t69 Tryz.t69 with row := none }) : Nat × TI) :: ((70, { mkTI Tryz.t70 Tryz.t70 with row := none }) : Nat × TI) :: ((71, { mkTI Tryz.t71 Tryz.t71 with row := none }) : Nat × TI) :: ((72, { mkTI Tryz.t72 Tryz.t72 with row := some [.seq [.str]] }) : Nat × TI) :: ((74, { mkTI Tryz.t74 Tryz.t74 with row := none }) : Nat × TI) :: ((75, { mkTI Tryz.t75 Tryz.t75 with row := none }) : Nat × TI) :: ((76, { mkTI Tryz.t76 Tryz.t76 with row := none }) : Nat × TI) :: ((77, { mkTI Tryz.t77 Tryz.t67 with row := some [.str, .str, .int .i64, .str] }) : Nat × TI) :: ((78, { mkTI Tryz.t78 Tryz.t78 with row := none }) : Nat × TI) :: ((80, { mkTI Tryz.t80 Tryz.t80 with row := none }) : Nat × TI) :: ((81, { mkTI Tryz.t81 Tryz.t81 with row := none }) : Nat × TI) :: tabS3
theorem tabS2_ok : TabOk prog tabS2 := by
  unfold tabS2
  refine TabOk.consR type54 underlying54 (by kernel_rfl) (by kernel_rfl) ?_
  refine TabOk.consR type55 underlying55 (by kernel_rfl) (by kernel_rfl) ?_
  refine TabOk.consR type56 underlying56 (by kernel_rfl) (by kernel_rfl) ?_
  refine TabOk.consR type57 underlying57 (by kernel_rfl) (by kernel_rfl) ?_
  refine TabOk.consR type58 underlying58 (by kernel_rfl) (by kernel_rfl) ?_
  refine TabOk.consR type59 underlying59 (by kernel_rfl) (by kernel_rfl) ?_
  refine TabOk.consR type60 underlying60 (by kernel_rfl) (by kernel_rfl) ?_
  refine TabOk.consR type62 underlying62 (by kernel_rfl) (by kernel_rfl) ?_
  refine TabOk.consR type63 underlying63 (by kernel_rfl) (by kernel_rfl) ?_
  refine TabOk.consR type64 underlying64 (by kernel_rfl) (by kernel_rfl) ?_
  refine TabOk.consR type65 underlying65 (by kernel_rfl) (by kernel_rfl) ?_
  refine TabOk.consR type66 underlying66 (by kernel_rfl) (by kernel_rfl) ?_
  refine TabOk.consR type67 underlying67 (by kernel_rfl) (by kernel_rfl) ?_
  refine TabOk.consR type68 underlying68 (by kernel_rfl) (by kernel_rfl) ?_
  refine TabOk.consR type69 underlying69 (by kernel_rfl) (by kernel_rfl) ?_
  refine TabOk.consR type70 underlying70 (by kernel_rfl) (by kernel_rfl) ?_
  refine TabOk.consR type71 underlying71 (by kernel_rfl) (by kernel_rfl) ?_
  refine TabOk.consR type72 underlying72 (by kernel_rfl) (by kernel_rfl) ?_
  refine TabOk.consR type74 underlying74 (by kernel_rfl) (by kernel_rfl) ?_
  refine TabOk.consR type75 underlying75 (by kernel_rfl) (by kernel_rfl) ?_
  refine TabOk.consR type76 underlying76 (by kernel_rfl) (by kernel_rfl) ?_
  refine TabOk.consR type77 underlying77 (by kernel_rfl) (by kernel_rfl) ?_
  refine TabOk.consR type78 underlying78 (by kernel_rfl) (by kernel_rfl) ?_
  refine TabOk.consR type80 underlying80 (by kernel_rfl) (by kernel_rfl) ?_
  refine TabOk.consR type81 underlying81 (by kernel_rfl) (by kernel_rfl) ?_
  exact tabS3_ok
noncomputable def tabS1 : Tab := ((26, { mkTI Tryz.t26 Tryz.t26 with row := none }) : Nat × TI) :: ((27, { mkTI Tryz.t27 Tryz.t27 with row := none }) : Nat × TI) :: ((28, { mkTI Tryz.t28 Tryz.t3 with row := some [.int .i64] }) : Nat × TI) :: ((29, { mkTI Tryz.t29 Tryz.t29 with row := none }) : Nat × TI) :: ((30, { mkTI Tryz.t30 Tryz.t30 with row := some [.seq [.int .i64]] }) : Nat × TI) :: ((32, { mkTI Tryz.t32 Tryz.t32 with row := none }) : Nat × TI) :: ((33, { mkTI Tryz.t33 Tryz.t33 with row := none }) : Nat × TI) :: ((35, { mkTI Tryz.t35 Tryz.t35 with row := none }) : Nat × TI) :: ((36, { mkTI Tryz.t36 Tryz.t36 with row := none }) : Nat × TI) :: ((37, { mkTI Tryz.t37 Tryz.t37 with row := none }) : Nat × TI) :: ((38, { mkTI Tryz.t38 Tryz.t38 with row := none }) : Nat × TI) :: ((39, { mkTI Tryz.t39 Tryz.t39 with row := none }) : Nat × TI) :: ((40, { mkTI Tryz.t40 Tryz.t40 with row := none }) : Nat × TI) :: ((41, { mkTI Tryz.t41 Tryz.t41 with row := none }) : Nat × TI) :: ((42, { mkTI Tryz.t42 Tryz.t42 with row := none }) : Nat × TI) :: ((43, { mkTI Tryz.t43 Tryz.t43 with row := none }) : Nat × TI) :: ((44, { mkTI Tryz.t44 Tryz.t44 with row := none }) : Nat × TI) :: ((45, { mkTI Tryz.t45 Tryz.t45 with row := none }) : Nat × TI) :: ((46, { mkTI Tryz.t46 Tryz.t46 with row := none }) : Nat × TI) :: ((48, { mkTI Tryz.t48 Tryz.t48 with row := none }) : Nat × TI) :: ((49, { mkTI Tryz.t49 Tryz.t49 with row := none }) : Nat × TI) :: ((50, { mkTI Tryz.t50 Tryz.t50 with row := none }) : Nat × TI) :: ((51, { mkTI Tryz.t51 Tryz.t51 with row := none }) : Nat × TI) :: ((52, { mkTI Tryz.t52 Tryz.t52 with row := none }) : Nat × TI) :: ((53, { mkTI Tryz.t53 Tryz.t53 with row := none }) : Nat × TI) :: tabS2
theorem tabS1_ok : TabOk prog tabS1 := by
  unfold tabS1
  refine TabOk.consR type26 underlying26 (by kernel_rfl) (by kernel_rfl) ?_
  refine TabOk.consR type27 underlying27 (by kernel_rfl) (by kernel_rfl) ?_
  refine TabOk.consR type28 underlying28 (by kernel_rfl) (by kernel_rfl) ?_
  refine TabOk.consR type29 underlying29 (by kernel_rfl) (by kernel_rfl) ?_
  refine TabOk.consR type30 underlying30 (by kernel_rfl) (by kernel_rfl) ?_
  refine TabOk.consR type32 underlying32 (by kernel_rfl) (by kernel_rfl) ?_
  refine TabOk.consR type33 underlying33 (by kernel_rfl) (by kernel_rfl) ?_
  refine TabOk.consR type35 underlying35 (by kernel_rfl) (by kernel_rfl) ?_
  refine TabOk.consR type36 underlying36 (by kernel_rfl) (by kernel_rfl) ?_
  refine TabOk.consR type37 underlying37 (by kernel_rfl) (by kernel_rfl) ?_
  refine TabOk.consR type38 underlying38 (by kernel_rfl) (by kernel_rfl) ?_
  refine TabOk.consR type39 underlying39 (by kernel_rfl) (by kernel_rfl) ?_
  refine TabOk.consR type40 underlying40 (by kernel_rfl) (by kernel_rfl) ?_
  refine TabOk.consR type41 underlying41 (by kernel_rfl) (by kernel_rfl) ?_
  refine TabOk.consR type42 underlying42 (by kernel_rfl) (by kernel_rfl) ?_
  refine TabOk.consR type43 underlying43 (by kernel_rfl) (by kernel_rfl) ?_
  refine TabOk.consR type44 underlying44 (by kernel_rfl) (by kernel_rfl) ?_
  refine TabOk.consR type45 underlying45 (by kernel_rfl) (by kernel_rfl) ?_
  refine TabOk.consR type46 underlying46 (by kernel_rfl) (by kernel_rfl) ?_
  refine TabOk.consR type48 underlying48 (by kernel_rfl) (by kernel_rfl) ?_
  refine TabOk.consR type49 underlying49 (by kernel_rfl) (by kernel_rfl) ?_
  refine TabOk.consR type50 underlying50 (by kernel_rfl) (by kernel_rfl) ?_
  refine TabOk.consR type51 underlying51 (by kernel_rfl) (by kernel_rfl) ?_
  refine TabOk.consR type52 underlying52 (by kernel_rfl) (by kernel_rfl) ?_
  refine TabOk.consR type53 underlying53 (by kernel_rfl) (by kernel_rfl) ?_
  exact tabS2_ok
noncomputable def tabS0 : Tab := ((1, { mkTI Tryz.t1 Tryz.t1 with row := none }) : Nat × TI) :: ((2, { mkTI Tryz.t2 Tryz.t2 with row := none }) : Nat × TI) :: ((3, { mkTI Tryz.t3 Tryz.t3 with row := some [.int .i64] }) : Nat × TI) :: ((4, { mkTI Tryz.t4 Tryz.t4 with row := some [.bool] }) : Nat × TI) :: ((5, { mkTI Tryz.t5 Tryz.t5 with row := some [.int .u8] }) : Nat × TI) :: ((6, { mkTI Tryz.t6 Tryz.t5 with row := none }) : Nat × TI) :: ((7, { mkTI Tryz.t7 Tryz.t7 with row := none }) : Nat × TI) :: ((8, { mkTI Tryz.t8 Tryz.t7 with row := none }) : Nat × TI) :: ((9, { mkTI Tryz.t9 Tryz.t9 with row := some [.str] }) : Nat × TI) :: ((10, { mkTI Tryz.t10 Tryz.t9 with row := none }) : Nat × TI) :: ((11, { mkTI Tryz.t11 Tryz.t9 with row := none }) : Nat × TI) :: ((12, { mkTI Tryz.t12 Tryz.t12 with row := none }) : Nat × TI) :: ((13, { mkTI Tryz.t13 Tryz.t13 with row := none }) : Nat × TI) :: ((14, { mkTI Tryz.t14 Tryz.t13 with row := none }) : Nat × TI) :: ((15, { mkTI Tryz.t15 Tryz.t15 with row := none }) : Nat × TI) :: ((16, { mkTI Tryz.t16 Tryz.t16 with row := none }) : Nat × TI) :: ((17, { mkTI Tryz.t17 Tryz.t17 with row := none }) : Nat × TI) :: ((18, { mkTI Tryz.t18 Tryz.t18 with row := none }) : Nat × TI) :: ((19, { mkTI Tryz.t19 Tryz.t18 with row := none }) : Nat × TI) :: ((20, { mkTI Tryz.t20 Tryz.t20 with row := none }) : Nat × TI) :: ((21, { mkTI Tryz.t21 Tryz.t21 with row := none }) : Nat × TI) :: ((22, { mkTI Tryz.t22 Tryz.t22 with row := none }) : Nat × TI) :: ((23, { mkTI Tryz.t23 Tryz.t23 with row := none }) : Nat × TI) :: ((24, { mkTI Tryz.t24 Tryz.t24 with row := none }) : Nat × TI) :: ((25, { mkTI Tryz.t25 Tryz.t25 with row := none }) : Nat × TI) :: tabS1
theorem tabS0_ok : TabOk prog tabS0 := by
  unfold tabS0
  refine TabOk.consR type1 underlying1 (by kernel_rfl) (by kernel_rfl) ?_
  refine TabOk.consR type2 underlying2 (by kernel_rfl) (by kernel_rfl) ?_
  refine TabOk.consR type3 underlying3 (by kernel_rfl) (by kernel_rfl) ?_
  refine TabOk.consR type4 underlying4 (by kernel_rfl) (by kernel_rfl) ?_
  refine TabOk.consR type5 underlying5 (by kernel_rfl) (by kernel_rfl) ?_
  refine TabOk.consR type6 underlying6 (by kernel_rfl) (by kernel_rfl) ?_
  refine TabOk.consR type7 underlying7 (by kernel_rfl) (by kernel_rfl) ?_
  refine TabOk.consR type8 underlying8 (by kernel_rfl) (by kernel_rfl) ?_
  refine TabOk.consR type9 underlying9 (by kernel_rfl) (by kernel_rfl) ?_
  refine TabOk.consR type10 underlying10 (by kernel_rfl) (by kernel_rfl) ?_
  refine TabOk.consR type11 underlying11 (by kernel_rfl) (by kernel_rfl) ?_
  refine TabOk.consR type12 underlying12 (by kernel_rfl) (by kernel_rfl) ?_
  refine TabOk.consR type13 underlying13 (by kernel_rfl) (by kernel_rfl) ?_
  refine TabOk.consR type14 underlying14 (by kernel_rfl) (by kernel_rfl) ?_
  refine TabOk.consR type15 underlying15 (by kernel_rfl) (by kernel_rfl) ?_
  refine TabOk.consR type16 underlying16 (by kernel_rfl) (by kernel_rfl) ?_
  refine TabOk.consR type17 underlying17 (by kernel_rfl) (by kernel_rfl) ?_
  refine TabOk.consR type18 underlying18 (by kernel_rfl) (by kernel_rfl) ?_
  refine TabOk.consR type19 underlying19 (by kernel_rfl) (by kernel_rfl) ?_
  refine TabOk.consR type20 underlying20 (by kernel_rfl) (by kernel_rfl) ?_
  refine TabOk.consR type21 underlying21 (by kernel_rfl) (by kernel_rfl) ?_
  refine TabOk.consR type22 underlying22 (by kernel_rfl) (by kernel_rfl) ?_
  refine TabOk.consR type23 underlying23 (by kernel_rfl) (by kernel_rfl) ?_
  refine TabOk.consR type24 underlying24 (by kernel_rfl) (by kernel_rfl) ?_
  refine TabOk.consR type25 underlying25 (by kernel_rfl) (by kernel_rfl) ?_
  exact tabS1_ok
noncomputable def fnsS7 : List (Nat × Func) := []
theorem fnsS7_ok : FnsOk prog fnsS7 := FnsOk.nil _
noncomputable def fnsS6 : List (Nat × Func) := ((152, Tryz.f152) : Nat × Func) :: ((153, Tryz.f153) : Nat × Func) :: ((154, Tryz.f154) : Nat × Func) :: ((155, Tryz.f155) : Nat × Func) :: ((156, Tryz.f156) : Nat × Func) :: ((157, Tryz.f157) : Nat × Func) :: ((160, Tryz.f160) : Nat × Func) :: ((161, Tryz.f161) : Nat × Func) :: ((184, Tryz.f184) : Nat × Func) :: fnsS7
theorem fnsS6_ok : FnsOk prog fnsS6 := by
  unfold fnsS6
  refine FnsOk.cons func152 call152 ?_
  refine FnsOk.cons func153 call153 ?_
  refine FnsOk.cons func154 call154 ?_
  refine FnsOk.cons func155 call155 ?_
  refine FnsOk.cons func156 call156 ?_
  refine FnsOk.cons func157 call157 ?_
  refine FnsOk.cons func160 call160 ?_
  refine FnsOk.cons func161 call161 ?_
  refine FnsOk.cons func184 call184 ?_
  exact fnsS7_ok
noncomputable def fnsS5 : List (Nat × Func) := ((127, Tryz.f127) : Nat × Func) :: ((128, Tryz.f128) : Nat × Func) :: ((129, Tryz.f129) : Nat × Func) :: ((130, Tryz.f130) : Nat × Func) :: ((131, Tryz.f131) : Nat × Func) :: ((132, Tryz.f132) : Nat × Func) :: ((133, Tryz.f133) : Nat × Func) :: ((134, Tryz.f134) : Nat × Func) :: ((135, Tryz.f135) : Nat × Func) :: ((136, Tryz.f136) : Nat × Func) :: ((137, Tryz.f137) : Nat × Func) :: ((138, Tryz.f138) : Nat × Func) :: ((139, Tryz.f139) : Nat × Func) :: ((140, Tryz.f140) : Nat × Func) :: ((141, Tryz.f141) : Nat × Func) :: ((142, Tryz.f142) : Nat × Func) :: ((143, Tryz.f143) : Nat × Func) :: ((144, Tryz.f144) : Nat × Func) :: ((145, Tryz.f145) : Nat × Func) :: ((146, Tryz.f146) : Nat × Func) :: ((147, Tryz.f147) : Nat × Func) :: ((148, Tryz.f148) : Nat × Func) :: ((149, Tryz.f149) : Nat × Func) :: ((150, Tryz.f150) : Nat × Func) :: ((151, Tryz.f151) : Nat × Func) :: fnsS6
theorem fnsS5_ok : FnsOk prog fnsS5 := by
  unfold fnsS5
  refine FnsOk.cons func127 call127 ?_
  refine FnsOk.cons func128 call128 ?_
  refine FnsOk.cons func129 call129 ?_
  refine FnsOk.cons func130 call130 ?_
  refine FnsOk.cons func131 call131 ?_
  refine FnsOk.cons func132 call132 ?_
  refine FnsOk.cons func133 call133 ?_
  refine FnsOk.cons func134 call134 ?_
  refine FnsOk.cons func135 call135 ?_
  refine FnsOk.cons func136 call136 ?_
  refine FnsOk.cons func137 call137 ?_
  refine FnsOk.cons func138 call138 ?_
  refine FnsOk.cons func139 call139 ?_
  refine FnsOk.cons func140 call140 ?_
  refine FnsOk.cons func141 call141 ?_
  refine FnsOk.cons func142 call142 ?_
  refine FnsOk.cons func143 call143 ?_
  refine FnsOk.cons func144 call144 ?_
  refine FnsOk.cons func145 call145 ?_
  refine FnsOk.cons func146 call146 ?_
  refine FnsOk.cons func147 call147 ?_
  refine FnsOk.cons func148 call148 ?_
  refine FnsOk.cons func149 call149 ?_
  refine FnsOk.cons func150 call150 ?_
  refine FnsOk.cons func151 call151 ?_
  exact fnsS6_ok
noncomputable def fnsS4 : List (Nat × Func) := ((102, Tryz.f102) : Nat × Func) :: ((103, Tryz.f103) : Nat × Func) :: ((104, Tryz.f104) : Nat × Func) :: ((105, Tryz.f105) : Nat × Func) :: ((106, Tryz.f106) : Nat × Func) :: ((107, Tryz.f107) : Nat × Func) :: ((108, Tryz.f108) : Nat × Func) :: ((109, Tryz.f109) : Nat × Func) :: ((110, Tryz.f110) : Nat × Func) :: ((111, Tryz.f111) : Nat × Func) :: ((112, Tryz.f112) : Nat × Func) :: ((113, Tryz.f113) : Nat × Func) :: ((114, Tryz.f114) : Nat × Func) :: ((115, Tryz.f115) : Nat × Func) :: ((116, Tryz.f116) : Nat × Func) :: ((117, Tryz.f117) : Nat × Func) :: ((118, Tryz.f118) : Nat × Func) :: ((119, Tryz.f119) : Nat × Func) :: ((120, Tryz.f120) : Nat × Func) :: ((121, Tryz.f121) : Nat × Func) :: ((122, Tryz.f122) : Nat × Func) :: ((123, Tryz.f123) : Nat × Func) :: ((124, Tryz.f124) : Nat × Func) :: ((125, Tryz.f125) : Nat × Func) :: ((126, Tryz.f126) : Nat × Func) :: fnsS5
theorem fnsS4_ok : FnsOk prog fnsS4 := by
  unfold fnsS4
  refine FnsOk.cons func102 call102 ?_
  refine FnsOk.cons func103 call103 ?_
  refine FnsOk.cons func104 call104 ?_
  refine FnsOk.cons func105 call105 ?_
  refine FnsOk.cons func106 call106 ?_
  refine FnsOk.cons func107 call107 ?_
  refine FnsOk.cons func108 call108 ?_
  refine FnsOk.cons func109 call109 ?_
  refine FnsOk.cons func110 call110 ?_
  refine FnsOk.cons func111 call111 ?_
  refine FnsOk.cons func112 call112 ?_
  refine FnsOk.cons func113 call113 ?_
  refine FnsOk.cons func114 call114 ?_
  refine FnsOk.cons func115 call115 ?_
  refine FnsOk.cons func116 call116 ?_
  refine FnsOk.cons func117 call117 ?_
  refine FnsOk.cons func118 call118 ?_
  refine FnsOk.cons func119 call119 ?_
  refine FnsOk.cons func120 call120 ?_
  refine FnsOk.cons func121 call121 ?_
  refine FnsOk.cons func122 call122 ?_
  refine FnsOk.cons func123 call123 ?_
  refine FnsOk.cons func124 call124 ?_
  refine FnsOk.cons func125 call125 ?_
  refine FnsOk.cons func126 call126 ?_
  exact fnsS5_ok
noncomputable def fnsS3 : List (Nat × Func) := ((77, Tryz.f77) : Nat × Func) :: ((78, Tryz.f78) : Nat × Func) :: ((79, Tryz.f79) : Nat × Func) :: ((80, Tryz.f80) : Nat × Func) :: ((81, Tryz.f81) : Nat × Func) :: ((82, Tryz.f82) : Nat × Func) :: ((83, Tryz.f83) : Nat × Func) :: ((84, Tryz.f84) : Nat × Func) :: ((85, Tryz.f85) : Nat × Func) :: ((86, Tryz.f86) : Nat × Func) :: ((87, Tryz.f87) : Nat × Func) :: ((88, Tryz.f88) : Nat × Func) :: ((89, Tryz.f89) : Nat × Func) :: ((90, Tryz.f90) : Nat × Func) :: ((91, Tryz.f91) : Nat × Func) :: ((92, Tryz.f92) : Nat × Func) :: ((93, Tryz.f93) : Nat × Func) :: ((94, Tryz.f94) : Nat × Func) :: ((95, Tryz.f95) : Nat × Func) :: ((96, Tryz.f96) : Nat × Func) :: ((97, Tryz.f97) : Nat × Func) :: ((98, Tryz.f98) : Nat × Func) :: ((99, Tryz.f99) : Nat × Func) :: ((100, Tryz.f100) : Nat × Func) :: ((101, Tryz.f101) : Nat × Func) :: fnsS4
theorem fnsS3_ok : FnsOk prog fnsS3 := by
  unfold fnsS3
  refine FnsOk.cons func77 call77 ?_
  refine FnsOk.cons func78 call78 ?_
  refine FnsOk.cons func79 call79 ?_
  refine FnsOk.cons func80 call80 ?_
  refine FnsOk.cons func81 call81 ?_
  refine FnsOk.cons func82 call82 ?_
  refine FnsOk.cons func83 call83 ?_
  refine FnsOk.cons func84 call84 ?_
  refine FnsOk.cons func85 call85 ?_
  refine FnsOk.cons func86 call86 ?_
  refine FnsOk.cons func87 call87 ?_
  refine FnsOk.cons func88 call88 ?_
  refine FnsOk.cons func89 call89 ?_
  refine FnsOk.cons func90 call90 ?_
  refine FnsOk.cons func91 call91 ?_
  refine FnsOk.cons func92 call92 ?_
  refine FnsOk.cons func93 call93 ?_
  refine FnsOk.cons func94 call94 ?_
  refine FnsOk.cons func95 call95 ?_
  refine FnsOk.cons func96 call96 ?_
  refine FnsOk.cons func97 call97 ?_
  refine FnsOk.cons func98 call98 ?_
  refine FnsOk.cons func99 call99 ?_
  refine FnsOk.cons func100 call100 ?_
  refine FnsOk.cons func101 call101 ?_
  exact fnsS4_ok
noncomputable def fnsS2 : List (Nat × Func) := ((52, Tryz.f52) : Nat × Func) :: ((53, Tryz.f53) : Nat × Func) :: ((54, Tryz.f54) : Nat × Func) :: ((55, Tryz.f55) : Nat × Func) :: ((56, Tryz.f56) : Nat × Func) :: ((57, Tryz.f57) : Nat × Func) :: ((58, Tryz.f58) : Nat × Func) :: ((59, Tryz.f59) : Nat × Func) :: ((60, Tryz.f60) : Nat × Func) :: ((61, Tryz.f61) : Nat × Func) :: ((62, Tryz.f62) : Nat × Func) :: ((63, Tryz.f63) : Nat × Func) :: ((64, Tryz.f64) : Nat × Func) :: ((65, Tryz.f65) : Nat × Func) :: ((66, Tryz.f66) : Nat × Func) :: ((67, Tryz.f67) : Nat × Func) :: ((68, Tryz.f68) : Nat × Func) :: ((69, Tryz.f69) : Nat × Func) :: ((70, Tryz.f70) : Nat × Func) :: ((71, Tryz.f71) : Nat × Func) :: ((72, Tryz.f72) : Nat × Func) :: ((73, Tryz.f73) : Nat × Func) :: ((74, Tryz.f74) : Nat × Func) :: ((75, Tryz.f75) : Nat × Func) :: ((76, Tryz.f76) : Nat × Func) :: fnsS3
theorem fnsS2_ok : FnsOk prog fnsS2 := by
  unfold fnsS2
  refine FnsOk.cons func52 call52 ?_
  refine FnsOk.cons func53 call53 ?_
  refine FnsOk.cons func54 call54 ?_
  refine FnsOk.cons func55 call55 ?_
  refine FnsOk.cons func56 call56 ?_
  refine FnsOk.cons func57 call57 ?_
  refine FnsOk.cons func58 call58 ?_
  refine FnsOk.cons func59 call59 ?_
  refine FnsOk.cons func60 call60 ?_
  refine FnsOk.cons func61 call61 ?_
  refine FnsOk.cons func62 call62 ?_
  refine FnsOk.cons func63 call63 ?_
  refine FnsOk.cons func64 call64 ?_
  refine FnsOk.cons func65 call65 ?_
  refine FnsOk.cons func66 call66 ?_
  refine FnsOk.cons func67 call67 ?_
  refine FnsOk.cons func68 call68 ?_
  refine FnsOk.cons func69 call69 ?_
  refine FnsOk.cons func70 call70 ?_
  refine FnsOk.cons func71 call71 ?_
  refine FnsOk.cons func72 call72 ?_
  refine FnsOk.cons func73 call73 ?_
  refine FnsOk.cons func74 call74 ?_
  refine FnsOk.cons func75 call75 ?_
  refine FnsOk.cons func76 call76 ?_
  exact fnsS3_ok
noncomputable def fnsS1 : List (Nat × Func) := ((27, Tryz.f27) : Nat × Func) :: ((28, Tryz.f28) : Nat × Func) :: ((29, Tryz.f29) : Nat × Func) :: ((30, Tryz.f30) : Nat × Func) :: ((31, Tryz.f31) : Nat × Func) :: ((32, Tryz.f32) : Nat × Func) :: ((33, Tryz.f33) : Nat × Func) :: ((34, Tryz.f34) : Nat × Func) :: ((35, Tryz.f35) : Nat × Func) :: ((36, Tryz.f36) : Nat × Func) :: ((37, Tryz.f37) : Nat × Func) :: ((38, Tryz.f38) : Nat × Func) :: ((39, Tryz.f39) : Nat × Func) :: ((40, Tryz.f40) : Nat × Func) :: ((41, Tryz.f41) : Nat × Func) :: ((42, Tryz.f42) : Nat × Func) :: ((43, Tryz.f43) : Nat × Func) :: ((44, Tryz.f44) : Nat × Func) :: ((45, Tryz.f45) : Nat × Func) :: ((46, Tryz.f46) : Nat × Func) :: ((47, Tryz.f47) : Nat × Func) :: ((48, Tryz.f48) : Nat × Func) :: ((49, Tryz.f49) : Nat × Func) :: ((50, Tryz.f50) : Nat × Func) :: ((51, Tryz.f51) : Nat × Func) :: fnsS2
theorem fnsS1_ok : FnsOk prog fnsS1 := by
  unfold fnsS1
  refine FnsOk.cons func27 call27 ?_
  refine FnsOk.cons func28 call28 ?_
  refine FnsOk.cons func29 call29 ?_
  refine FnsOk.cons func30 call30 ?_
  refine FnsOk.cons func31 call31 ?_
  refine FnsOk.cons func32 call32 ?_
  refine FnsOk.cons func33 call33 ?_
  refine FnsOk.cons func34 call34 ?_
  refine FnsOk.cons func35 call35 ?_
  refine FnsOk.cons func36 call36 ?_
  refine FnsOk.cons func37 call37 ?_
  refine FnsOk.cons func38 call38 ?_
  refine FnsOk.cons func39 call39 ?_
  refine FnsOk.cons func40 call40 ?_
  refine FnsOk.cons func41 call41 ?_
  refine FnsOk.cons func42 call42 ?_
  refine FnsOk.cons func43 call43 ?_
  refine FnsOk.cons func44 call44 ?_
  refine FnsOk.cons func45 call45 ?_
  refine FnsOk.cons func46 call46 ?_
  refine FnsOk.cons func47 call47 ?_
  refine FnsOk.cons func48 call48 ?_
  refine FnsOk.cons func49 call49 ?_
  refine FnsOk.cons func50 call50 ?_
  refine FnsOk.cons func51 call51 ?_
  exact fnsS2_ok
noncomputable def fnsS0 : List (Nat × Func) := ((2, Tryz.f2) : Nat × Func) :: ((3, Tryz.f3) : Nat × Func) :: ((4, Tryz.f4) : Nat × Func) :: ((5, Tryz.f5) : Nat × Func) :: ((6, Tryz.f6) : Nat × Func) :: ((7, Tryz.f7) : Nat × Func) :: ((8, Tryz.f8) : Nat × Func) :: ((9, Tryz.f9) : Nat × Func) :: ((10, Tryz.f10) : Nat × Func) :: ((11, Tryz.f11) : Nat × Func) :: ((12, Tryz.f12) : Nat × Func) :: ((13, Tryz.f13) : Nat × Func) :: ((14, Tryz.f14) : Nat × Func) :: ((15, Tryz.f15) : Nat × Func) :: ((16, Tryz.f16) : Nat × Func) :: ((17, Tryz.f17) : Nat × Func) :: ((18, Tryz.f18) : Nat × Func) :: ((19, Tryz.f19) : Nat × Func) :: ((20, Tryz.f20) : Nat × Func) :: ((21, Tryz.f21) : Nat × Func) :: ((22, Tryz.f22) : Nat × Func) :: ((23, Tryz.f23) : Nat × Func) :: ((24, Tryz.f24) : Nat × Func) :: ((25, Tryz.f25) : Nat × Func) :: ((26, Tryz.f26) : Nat × Func) :: fnsS1
theorem fnsS0_ok : FnsOk prog fnsS0 := by
  unfold fnsS0
  refine FnsOk.cons func2 call2 ?_
  refine FnsOk.cons func3 call3 ?_
  refine FnsOk.cons func4 call4 ?_
  refine FnsOk.cons func5 call5 ?_
  refine FnsOk.cons func6 call6 ?_
  refine FnsOk.cons func7 call7 ?_
  refine FnsOk.cons func8 call8 ?_
  refine FnsOk.cons func9 call9 ?_
  refine FnsOk.cons func10 call10 ?_
  refine FnsOk.cons func11 call11 ?_
  refine FnsOk.cons func12 call12 ?_
  refine FnsOk.cons func13 call13 ?_
  refine FnsOk.cons func14 call14 ?_
  refine FnsOk.cons func15 call15 ?_
  refine FnsOk.cons func16 call16 ?_
  refine FnsOk.cons func17 call17 ?_
  refine FnsOk.cons func18 call18 ?_
  refine FnsOk.cons func19 call19 ?_
  refine FnsOk.cons func20 call20 ?_
  refine FnsOk.cons func21 call21 ?_
  refine FnsOk.cons func22 call22 ?_
  refine FnsOk.cons func23 call23 ?_
  refine FnsOk.cons func24 call24 ?_
  refine FnsOk.cons func25 call25 ?_
  refine FnsOk.cons func26 call26 ?_
  exact fnsS1_ok
theorem cx_ok : cx.Ok := ⟨show TabOk prog tab from tabS0_ok, show FnsOk prog fns from fnsS0_ok, by kernel_rfl⟩
abbrev TEnt := ByteArray × ByteArray × ByteArray × Int × ByteArray
abbrev TRun := ByteArray × ByteArray × Int × ByteArray
abbrev zEnt : TEnt := (ByteArray.empty, ByteArray.empty, ByteArray.empty, (0 : Int), ByteArray.empty)
abbrev zRun : TRun := (ByteArray.empty, ByteArray.empty, (0 : Int), ByteArray.empty)
end Go.Proofs.Tryz
