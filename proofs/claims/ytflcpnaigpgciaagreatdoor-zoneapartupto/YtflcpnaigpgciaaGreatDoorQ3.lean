/- Part of the proof that ZoneApart holds of the program for arguments that together hold at most 1048576 values and letters; no other condition. -/
import Derived.Test.YtflcpnaigpgciaaGreatDoorQ2
import Derived.Test.YtflcpnaigpgciaaGreatDoorProg
import Derived.KernelRfl
set_option linter.all false
section
namespace Go.Ah.Tz
open Go.Proofs.Tryz (prog)
set_option maxRecDepth 100000
def g3:GFun:=fun A xs σ ret=>match xs with
 | [x0,x1,x2,x3,x4,x5]=>
 A.wr (Zo [x0] σ) σ fun t0 σ=>A.wr (Zo [x1] σ) σ fun t1 σ=>A.rd (Ze true 2 [t0] σ) fun t2=>A.call (.call 14) [t2] σ fun t3 σ=>A.gof t3 (Ze true 23 [t1] σ) fun t4=>
 A.gw t3 false (fun k=>A.call (.call 15) [t4] σ k) σ fun t5 σ=>A.rd (Qc [t3,.bool true,t5] σ) fun t6=>A.gof t6 (Ze true 2 [t0] σ) fun t7=>A.gof t6 (Ze true 23 [t1] σ) fun t8=>
 A.gw t6 false (fun k=>A.call (.call 16) [t7,t8] σ k) σ fun t9 σ=>A.gof t6 (Qb .neq false [t9,jv 0] σ) fun t10=>A.rd (Qc [t6,.bool true,t10] σ) fun t11=>
 A.gof t11 (Zj [x2] σ) fun t12=>A.gof t11 (Qb .lss false [t12,jv 0] σ) fun t13=>A.rd (Qc [t11,.bool true,t13] σ) fun t14=>A.gof t14 (Zj [x2] σ) fun t15=>
 A.gof t14 (Qb .gtr false [t15,jv 1] σ) fun t16=>A.rd (Qc [t14,.bool true,t16] σ) fun t17=>A.test t17 (A.call (.call 17) [] σ fun t18 σ=>ret t18 σ) (
 A.rd (Ze true 2 [t0] σ) fun t19=>A.rd (Ze true 23 [t1] σ) fun t20=>A.call (.call 18) [t19,t20,x2] σ fun t21 σ=>A.rd (Qe 0 [t21] σ) fun t22=>
 A.rd (Qe 1 [t21] σ) fun t23=>A.rd (Qe 2 [t21] σ) fun t24=>A.wr (Yf zq0 [] σ) σ fun t25 σ=>A.wr (Yf zq1 [] σ) σ fun t26 σ=>A.wr (Zc 23 [t25,t22] σ) σ fun _ σ=>
 A.wr (Zc 7 [t26,t23] σ) σ fun _ σ=>A.rd (Qb .eql false [t24,jv 0] σ) fun t27=>joinK (fun k28=>A.test t27 (A.rd (Ze true 23 [t1] σ) fun t30=>
 A.call (.call 19) [t30] σ fun t31 σ=>A.wr (Yf zq0 [] σ) σ fun t32 σ=>A.wr (Zc 23 [t32,t31] σ) σ fun _ σ=>A.rd (Ya 7 [t25] σ) fun t33=>A.rd (Yi 2 8 [t33,x2] σ) fun t34=>
 A.rd (Ze true 8 [t34] σ) fun t35=>A.rd (Ya 7 [t32] σ) fun t36=>A.rd (Yi 2 8 [t36,x2] σ) fun t37=>A.wr (Zc 8 [t37,t35] σ) σ fun _ σ=>
 A.rd (Ya 0 [t26] σ) fun t38=>A.rd (Qa [t38] σ) fun t39=>A.rd (Qb .eql false [t39,.int .i8 4] σ) fun t40=>joinK (fun k41=>A.test t40 (A.pu (Qb .sub false [jv 1,x2] σ) fun t43=>
 A.pu (Qb .sub false [jv 1,x2] σ) fun t44=>A.pu (Ya 7 [t32] σ) fun t45=>A.pu (Yi 2 8 [t45,t44] σ) fun t46=>A.pu (Ya 7 [t46] σ) fun t47=>
 A.dr (Qa [t47] σ) σ fun t48 l49 σ=>A.pu (Ya 2 [t26] σ) fun t50=>A.dr (Qa [t50] σ) σ fun t51 l52 σ=>A.dr (Yl 1 1 [jv 0] [(0,1)] [t51] σ) σ fun t53 l54 σ=>
 A.dr (Yk 1 8 [t48,t53] σ) σ fun t55 l56 σ=>A.pu (Ya 7 [t32] σ) fun t57=>A.pu (Yi 2 8 [t57,t43] σ) fun t58=>A.pu (Ya 7 [t58] σ) fun t59=>
 A.dr (Zc 1 [t59,t55] σ) σ fun _ l60 σ=>A.gd (Xk [[],[0],[],[2],[],[2,3,4],[2,3,4,5],[2,3,4,5,6],[],[8],[8,9],[2,3,4,5,6,7,8,9,10],[],[0,1,2,3,4,5,6,7,8,9,10,11,12],[0,1,2,3,4,5,6,7,8,9,10,11,12,13],[0,1,2,3,4,5,6,7,8,9,10,11,12,13,14]] [([],[]),([],[]),([],[]),([],[]),([],[]),([],[]),([],[]),l49,([],[]),l52,l54,l56,([],[]),([],[]),([],[]),l60]) <|
 k41 [] σ) (k41 [] σ)) (fun v42 σ=>A.rd (Ze true 23 [t25] σ) fun t61=>A.rd (Ze true 23 [t32] σ) fun t62=>A.call (.call 20) [t61,t62] σ fun t63 σ=>A.rd (Yp .not [t63] σ) fun t64=>
 A.test t64 (ret (.bool false) σ) (k28 [] σ))) (k28 [] σ)) (fun v29 σ=>A.rd (Ze true 2 [t0] σ) fun t65=>A.rd (Ze true 23 [t1] σ) fun t66=>A.call (.call 21) [t65,t66,x2,x3] σ fun t67 σ=>
 A.rd (Qe 0 [t67] σ) fun t68=>A.rd (Qe 1 [t67] σ) fun t69=>A.rd (Qe 2 [t67] σ) fun t70=>A.wr (Yf zq1 [] σ) σ fun t71 σ=>A.wr (Zc 23 [t25,t68] σ) σ fun _ σ=>
 A.wr (Zc 7 [t71,t69] σ) σ fun _ σ=>joinK (fun k72=>A.test t70 (A.rd (Ze true 23 [t1] σ) fun t74=>A.call (.call 19) [t74] σ fun t75 σ=>A.wr (Yf zq0 [] σ) σ fun t76 σ=>
 A.wr (Zc 23 [t76,t75] σ) σ fun _ σ=>A.rd (Ya 7 [t25] σ) fun t77=>A.rd (Yi 2 8 [t77,x2] σ) fun t78=>A.rd (Ya 6 [t78] σ) fun t79=>
 A.rd (Qa [t79] σ) fun t80=>A.rd (Ya 7 [t76] σ) fun t81=>A.rd (Yi 2 8 [t81,x2] σ) fun t82=>A.rd (Ya 6 [t82] σ) fun t83=>A.wr (Zc 1 [t83,t80] σ) σ fun _ σ=>
 A.rd (Ya 6 [t25] σ) fun t84=>A.rd (Qa [t84] σ) fun t85=>A.rd (Ya 6 [t76] σ) fun t86=>A.wr (Zc 1 [t86,t85] σ) σ fun _ σ=>A.rd (Ze true 23 [t25] σ) fun t87=>
 A.rd (Ze true 23 [t76] σ) fun t88=>A.call (.call 20) [t87,t88] σ fun t89 σ=>A.rd (Yp .not [t89] σ) fun t90=>A.test t90 (ret (.bool false) σ) (k72 [] σ)) (
 k72 [] σ)) (fun v73 σ=>A.rd (Ze true 2 [t0] σ) fun t91=>A.rd (Ze true 23 [t1] σ) fun t92=>A.call (.call 22) [t91,t92,x4,x2,x5] σ fun t93 σ=>A.rd (Qe 0 [t93] σ) fun t94=>
 A.rd (Qe 1 [t93] σ) fun t95=>A.rd (Qe 2 [t93] σ) fun t96=>A.wr (Zc 23 [t25,t94] σ) σ fun _ σ=>A.rd (Qb .neq false [t96,jv 0] σ) fun t97=>
 A.test t97 (A.call (.call 17) [] σ fun t98 σ=>ret t98 σ) (A.rd (Ze true 23 [t1] σ) fun t99=>A.call (.call 19) [t99] σ fun t100 σ=>A.wr (Yf zq0 [] σ) σ fun t101 σ=>
 A.wr (Zc 23 [t101,t100] σ) σ fun _ σ=>A.rd (Ze true 23 [t1] σ) fun t102=>A.call (.call 23) [t102,x4] σ fun t103 σ=>A.rd (Qe 0 [t103] σ) fun t104=>
 A.rd (Qe 1 [t103] σ) fun t105=>A.rd (Qe 2 [t103] σ) fun t106=>A.rd (Yp .not [t106] σ) fun t107=>joinK (fun k108=>A.test t107 (A.rd (Ya 7 [t25] σ) fun t110=>
 A.rd (Yi 2 8 [t110,x2] σ) fun t111=>A.rd (Ya 0 [t111] σ) fun t112=>A.rd (Qa [t112] σ) fun t113=>A.rd (Ya 7 [t101] σ) fun t114=>
 A.rd (Yi 2 8 [t114,x2] σ) fun t115=>A.rd (Ya 0 [t115] σ) fun t116=>A.wr (Zc 1 [t116,t113] σ) σ fun _ σ=>k108 [] σ) (A.rd (Ya 7 [t25] σ) fun t117=>
 A.rd (Yi 2 8 [t117,t104] σ) fun t118=>A.rd (Ya 6 [t118] σ) fun t119=>A.rd (Qa [t119] σ) fun t120=>A.rd (Qg [t120] σ) fun t121=>A.rd (Qb .lss false [t105,t121] σ) fun t122=>
 A.test t122 (A.pu (Ya 7 [t101] σ) fun t123=>A.pu (Yi 2 8 [t123,t104] σ) fun t124=>A.pu (Ya 6 [t124] σ) fun t125=>A.dr (Qa [t125] σ) σ fun t126 l127 σ=>
 A.pu (Ya 7 [t25] σ) fun t128=>A.pu (Yi 2 8 [t128,t104] σ) fun t129=>A.pu (Ya 6 [t129] σ) fun t130=>A.dr (Qa [t130] σ) σ fun t131 l132 σ=>
 A.dr (Xd 4 [t131,t105] σ) σ fun t133 l134 σ=>A.pu (Ya 2 [t133] σ) fun t135=>A.dr (Qa [t135] σ) σ fun t136 l137 σ=>A.dr (Xd 4 [t126,t105] σ) σ fun t138 l139 σ=>
 A.pu (Ya 2 [t138] σ) fun t140=>A.dr (Zc 1 [t140,t136] σ) σ fun _ l141 σ=>A.gd (Xk [[],[],[0,1],[0,1,2],[0,1,2,3],[],[],[],[6,7],[6,7,8],[6,7,8,9],[],[6,7,8,9,10,11],[6,7,8,9,10,11,12],[6,7,8,9,10,11,12,13],[0,1,2,3,4,5,6,7,8,9,10,11,12,13,14],[0,1,2,3,4,5,6,7,8,9,10,11,12,13,14,15],[0,1,2,3,4,5,6,7,8,9,10,11,12,13,14,15,16]] [([],[]),([],[]),([],[]),([],[]),l127,([],[]),([],[]),([],[]),([],[]),([],[]),l132,([],[]),l134,([],[]),l137,l139,([],[]),l141]) <|
 k108 [] σ) (k108 [] σ))) (fun v109 σ=>A.rd (Ze true 23 [t25] σ) fun t142=>A.rd (Ze true 23 [t101] σ) fun t143=>A.call (.call 20) [t142,t143] σ fun t144 σ=>
 A.gw t144 true (fun k=>A.call (.call 17) [] σ k) σ fun t145 σ=>A.rd (Qc [t144,t145,.bool false] σ) fun t146=>ret t146 σ)))))
 | _=>A.stop
abbrev n3:List (Option (List Nat)):=[none,some [],some [],none,some [],none,none,some [],none]
theorem g3_ok:GOk prog GL0 3 6 g3:=gok6 (l:=n3) (by kernel_rfl) fun _ _ _ _ _ _ _ _ _ _=>by kernel_rfl
def g4:GFun:=fun A xs σ ret=>match xs with
 | [x0,x1,x2,x3,x4,x5]=>
 A.wr (Zo [x0] σ) σ fun t0 σ=>A.wr (Zo [x1] σ) σ fun t1 σ=>A.rd (Ze true 2 [t0] σ) fun t2=>A.call (.call 14) [t2] σ fun t3 σ=>A.gof t3 (Ze true 23 [t1] σ) fun t4=>
 A.gw t3 false (fun k=>A.call (.call 15) [t4] σ k) σ fun t5 σ=>A.rd (Qc [t3,.bool true,t5] σ) fun t6=>A.gof t6 (Ze true 2 [t0] σ) fun t7=>A.gof t6 (Ze true 23 [t1] σ) fun t8=>
 A.gw t6 false (fun k=>A.call (.call 16) [t7,t8] σ k) σ fun t9 σ=>A.gof t6 (Qb .neq false [t9,jv 0] σ) fun t10=>A.rd (Qc [t6,.bool true,t10] σ) fun t11=>
 A.gof t11 (Ya 7 [t1] σ) fun t12=>A.gof t11 (Yi 2 8 [t12,jv 0] σ) fun t13=>A.gof t11 (Ya 5 [t13] σ) fun t14=>A.gof t11 (Qa [t14] σ) fun t15=>
 A.gof t11 (Qg [t15] σ) fun t16=>A.gof t11 (Ya 7 [t1] σ) fun t17=>A.gof t11 (Yi 2 8 [t17,jv 0] σ) fun t18=>A.gof t11 (Ya 7 [t18] σ) fun t19=>
 A.gof t11 (Qa [t19] σ) fun t20=>A.gof t11 (Qg [t20] σ) fun t21=>A.gof t11 (Qb .add false [t16,t21] σ) fun t22=>A.gof t11 (Qb .gtr false [t22,jv 1900] σ) fun t23=>
 A.rd (Qc [t11,.bool true,t23] σ) fun t24=>A.test t24 (A.call (.call 17) [] σ fun t25 σ=>ret t25 σ) (A.rd (Ze true 23 [t1] σ) fun t26=>A.call (.call 19) [t26] σ fun t27 σ=>
 A.wr (Yf zq0 [] σ) σ fun t28 σ=>A.wr (Zc 23 [t28,t27] σ) σ fun _ σ=>A.rd (Ze true 23 [t1] σ) fun t29=>A.call (.call 24) [t29] σ fun t30 σ=>A.rd (Ze true 2 [t0] σ) fun t31=>
 A.rd (Ze true 23 [t1] σ) fun t32=>A.call (.call 18) [t31,t32,x2] σ fun t33 σ=>A.rd (Qe 0 [t33] σ) fun t34=>A.rd (Qe 1 [t33] σ) fun t35=>
 A.rd (Qe 2 [t33] σ) fun t36=>A.wr (Yf zq0 [] σ) σ fun t37 σ=>A.wr (Yf zq1 [] σ) σ fun t38 σ=>A.wr (Zc 23 [t37,t34] σ) σ fun _ σ=>A.wr (Zc 7 [t38,t35] σ) σ fun _ σ=>
 A.rd (Qb .eql false [t36,jv 0] σ) fun t39=>A.got t39 (Ze true 2 [t0] σ) fun t40=>A.got t39 (Ze true 23 [t37] σ) fun t41=>A.gw t39 true (fun k=>A.call (.call 25) [t40,t41,.bool true] σ k) σ fun t42 σ=>
 A.got t39 (Yp .not [t42] σ) fun t43=>A.got t39 (Zj [t43] σ) fun t44=>A.gof t44 (Ze true 23 [t37] σ) fun t45=>A.gw t44 false (fun k=>A.call (.call 24) [t45] σ k) σ fun t46 σ=>
 A.gof t44 (Zj [t30] σ) fun t47=>A.gof t44 (Qb .neq false [t46,t47] σ) fun t48=>A.got t39 (Qc [t44,.bool true,t48] σ) fun t49=>A.rd (Qc [t39,t49,.bool false] σ) fun t50=>
 A.test t50 (ret (.bool false) σ) (A.rd (Ze true 2 [t0] σ) fun t51=>A.rd (Ze true 23 [t1] σ) fun t52=>A.call (.call 21) [t51,t52,x2,x3] σ fun t53 σ=>
 A.rd (Qe 0 [t53] σ) fun t54=>A.rd (Qe 1 [t53] σ) fun t55=>A.rd (Qe 2 [t53] σ) fun t56=>A.wr (Yf zq0 [] σ) σ fun t57 σ=>A.wr (Yf zq1 [] σ) σ fun t58 σ=>
 A.wr (Zc 23 [t57,t54] σ) σ fun _ σ=>A.wr (Zc 7 [t58,t55] σ) σ fun _ σ=>A.got t56 (Ze true 2 [t0] σ) fun t59=>A.got t56 (Ze true 23 [t57] σ) fun t60=>
 A.gw t56 true (fun k=>A.call (.call 25) [t59,t60,.bool true] σ k) σ fun t61 σ=>A.got t56 (Yp .not [t61] σ) fun t62=>A.got t56 (Zj [t62] σ) fun t63=>
 A.gof t63 (Ze true 23 [t57] σ) fun t64=>A.gw t63 false (fun k=>A.call (.call 24) [t64] σ k) σ fun t65 σ=>A.gof t63 (Zj [t30] σ) fun t66=>A.gof t63 (Qb .add false [t66,jv 1] σ) fun t67=>
 A.gof t63 (Qb .neq false [t65,t67] σ) fun t68=>A.got t56 (Qc [t63,.bool true,t68] σ) fun t69=>A.got t56 (Zj [t69] σ) fun t70=>A.gof t70 (Ya 3 [t58] σ) fun t71=>
 A.gof t70 (Qa [t71] σ) fun t72=>A.gof t70 (Ya 6 [t1] σ) fun t73=>A.gof t70 (Qa [t73] σ) fun t74=>A.gof t70 (Qb .neq false [t72,t74] σ) fun t75=>
 A.got t56 (Qc [t70,.bool true,t75] σ) fun t76=>A.got t56 (Zj [t76] σ) fun t77=>A.gof t77 (Ya 6 [t57] σ) fun t78=>A.gof t77 (Qa [t78] σ) fun t79=>
 A.gof t77 (Ya 6 [t1] σ) fun t80=>A.gof t77 (Qa [t80] σ) fun t81=>A.gof t77 (Qb .add false [t81,jv 1] σ) fun t82=>A.gof t77 (Qb .neq false [t79,t82] σ) fun t83=>
 A.got t56 (Qc [t77,.bool true,t83] σ) fun t84=>A.rd (Qc [t56,t84,.bool false] σ) fun t85=>A.test t85 (ret (.bool false) σ) (A.rd (Xg [.bool false,.bool false] [(0,1),(1,1)] [.bool false,.bool true] σ) fun t86=>
 A.loop (fun ag87 v88 σ=>A.rd (Qb .lss false [(h0 v88),jv 2] σ) fun t89=>A.test t89 (A.rd (Y3 false 2 1 [t86,(h0 v88)] σ) fun t90=>A.rd (Ze true 2 [t0] σ) fun t91=>
 A.rd (Ze true 23 [t1] σ) fun t92=>A.call (.call 22) [t91,t92,x4,x2,x5] σ fun t93 σ=>A.rd (Qe 0 [t93] σ) fun t94=>A.rd (Qe 1 [t93] σ) fun t95=>
 A.rd (Qe 2 [t93] σ) fun t96=>A.wr (Yf zq0 [] σ) σ fun t97 σ=>A.wr (Yf zq1 [] σ) σ fun t98 σ=>A.wr (Zc 23 [t97,t94] σ) σ fun _ σ=>A.wr (Zc 7 [t98,t95] σ) σ fun _ σ=>
 joinK (fun k99=>A.test t90 (A.rd (Ze true 2 [t0] σ) fun t101=>A.rd (Ze true 23 [t1] σ) fun t102=>A.call (.call 26) [t101,t102,x4,x2,x5] σ fun t103 σ=>
 A.rd (Qe 0 [t103] σ) fun t104=>A.rd (Qe 1 [t103] σ) fun t105=>A.rd (Qe 2 [t103] σ) fun t106=>A.wr (Zc 23 [t97,t104] σ) σ fun _ σ=>
 A.wr (Zc 7 [t98,t105] σ) σ fun _ σ=>k99 [t106] σ) (k99 [t96] σ)) (fun v100 σ=>A.rd (Qb .eql false [(h0 v100),jv 0] σ) fun t107=>A.got t107 (Ze true 2 [t0] σ) fun t108=>
 A.got t107 (Ze true 23 [t97] σ) fun t109=>A.gw t107 true (fun k=>A.call (.call 25) [t108,t109,.bool true] σ k) σ fun t110 σ=>A.got t107 (Yp .not [t110] σ) fun t111=>
 A.got t107 (Zj [t111] σ) fun t112=>A.gof t112 (Ze true 23 [t97] σ) fun t113=>A.gw t112 false (fun k=>A.call (.call 24) [t113] σ k) σ fun t114 σ=>A.gof t112 (Zj [t30] σ) fun t115=>
 A.gof t112 (Qb .neq false [t114,t115] σ) fun t116=>A.got t107 (Qc [t112,.bool true,t116] σ) fun t117=>A.got t107 (Zj [t117] σ) fun t118=>A.gof t118 (Ya 5 [t98] σ) fun t119=>
 A.gof t118 (Qa [t119] σ) fun t120=>A.gof t118 (Qb .lss false [t120,jv 0] σ) fun t121=>A.got t107 (Qc [t118,.bool true,t121] σ) fun t122=>A.rd (Qc [t107,t122,.bool false] σ) fun t123=>
 A.test t123 (ret (.bool false) σ) (A.rd (Qb .add false [(h0 v88),jv 1] σ) fun t124=>ag87 [t124] σ))) (A.dr (Ze true 2 [t0] σ) σ fun t125 l126 σ=>A.dr (Ze true 23 [t1] σ) σ fun t127 l128 σ=>
 A.dr (Ze true 2 [t0] σ) σ fun t129 l130 σ=>A.dr (Ze true 23 [t1] σ) σ fun t131 l132 σ=>A.dcall (.call 28) [t129,t131] σ fun t133 l134 σ=>A.dcall (.call 27) [t125,t127,t133] σ fun t135 l136 σ=>
 A.pu (Qe 0 [t135] σ) fun t137=>A.pu (Qe 1 [t135] σ) fun t138=>A.dr (Yf zq0 [] σ) σ fun t139 l140 σ=>A.dr (Zc 23 [t139,t137] σ) σ fun _ l141 σ=>
 A.gd (Xk [[],[],[],[],[2,3],[0,1,2,3,4],[0,1,2,3,4,5],[0,1,2,3,4,5,6],[0,1,2,3,4,5,6],[],[0,1,2,3,4,5,6,7,9],[0,1,2,3,4,5,6,7,8,9,10]] [l126,l128,l130,l132,l134,l136,([],[]),([],[]),([],[]),l140,l141,([],[])]) <|
 A.rd (Ze true 2 [t0] σ) fun t142=>A.rd (Ze true 23 [t139] σ) fun t143=>A.call (.call 25) [t142,t143,.bool true] σ fun t144 σ=>A.rd (Yp .not [t144] σ) fun t145=>
 A.gof t145 (Ze true 23 [t139] σ) fun t146=>A.gw t145 false (fun k=>A.call (.call 24) [t146] σ k) σ fun t147 σ=>A.gof t145 (Zj [t30] σ) fun t148=>A.gof t145 (Qb .neq false [t147,t148] σ) fun t149=>
 A.rd (Qc [t145,.bool true,t149] σ) fun t150=>A.gof t150 (Zj [t138] σ) fun t151=>A.gof t150 (Qg [t151] σ) fun t152=>A.gof t150 (Ze true 2 [t0] σ) fun t153=>
 A.gof t150 (Ze true 23 [t1] σ) fun t154=>A.gw t150 false (fun k=>A.call (.call 28) [t153,t154] σ k) σ fun t155 σ=>A.gof t150 (Qg [t155] σ) fun t156=>
 A.gof t150 (Qb .neq false [t152,t156] σ) fun t157=>A.rd (Qc [t150,.bool true,t157] σ) fun t158=>A.test t158 (ret (.bool false) σ) (A.rd (Ze true 23 [t1] σ) fun t159=>
 A.rd (Ze true 23 [t28] σ) fun t160=>A.call (.call 20) [t159,t160] σ fun t161 σ=>A.gw t161 true (fun k=>A.call (.call 17) [] σ k) σ fun t162 σ=>A.rd (Qc [t161,t162,.bool false] σ) fun t163=>
 ret t163 σ))) [jv 0] σ)))
 | _=>A.stop
abbrev n4:List (Option (List Nat)):=[none,none,none,none,some [120],none,none,some [25],none,none]
abbrev n5:List (Option (List Nat)):=[none,none,some [51,12],none,none,none,some [65,12],none,none,none,some [70,12],none,some [12],none]
def g14:GFun:=fun A xs σ ret=>match xs with
 | [x0]=>
 A.wr (Zo [x0] σ) σ fun t0 σ=>A.rd (Ya 1 [t0] σ) fun t1=>A.rd (Qa [t1] σ) fun t2=>A.rd (Qg [t2] σ) fun t3=>A.loop (fun ag4 v5 σ=>A.rd (Qb .lss false [(h0 v5),t3] σ) fun t6=>
 A.test t6 (A.rd (Ya 1 [t0] σ) fun t7=>A.rd (Qa [t7] σ) fun t8=>A.rd (Xd 7 [t8,(h0 v5)] σ) fun t9=>A.rd (Ya 4 [t9] σ) fun t10=>
 A.rd (Qa [t10] σ) fun t11=>A.rd (Qg [t11] σ) fun t12=>A.rd (Qb .add false [jv 1,t12] σ) fun t13=>A.rd (Ya 1 [t0] σ) fun t14=>A.rd (Qa [t14] σ) fun t15=>
 A.rd (Xd 7 [t15,(h0 v5)] σ) fun t16=>A.rd (Ya 5 [t16] σ) fun t17=>A.rd (Qa [t17] σ) fun t18=>A.rd (Qg [t18] σ) fun t19=>A.rd (Qb .add false [t13,t19] σ) fun t20=>
 A.rd (Qb .add false [(h1 v5),t20] σ) fun t21=>A.rd (Qb .add false [(h0 v5),jv 1] σ) fun t22=>ag4 [t22,t21] σ) (A.rd (Qb .gtr false [(h1 v5),jv 600] σ) fun t23=>
 A.gof t23 (Ya 0 [t0] σ) fun t24=>A.gof t23 (Qa [t24] σ) fun t25=>A.gw t23 false (fun k=>A.call (.call 52) [t25] σ k) σ fun t26 σ=>A.rd (Qc [t23,.bool true,t26] σ) fun t27=>
 ret t27 σ)) [jv 0,jv 0] σ
 | _=>A.stop
abbrev n14:List (Option (List Nat)):=[none,some [8,3],none,none]
theorem g14_ok:GOk prog GL0 14 1 g14:=gok1 (l:=n14) (by kernel_rfl) fun _ _ _ _ _=>by kernel_rfl
def g15:GFun:=fun A xs σ ret=>match xs with
 | [x0]=>
 A.wr (Zo [x0] σ) σ fun t0 σ=>A.rd (Ya 5 [t0] σ) fun t1=>A.rd (Qa [t1] σ) fun t2=>A.rd (Qg [t2] σ) fun t3=>A.loop (fun ag4 v5 σ=>A.rd (Qb .lss false [(h0 v5),jv 2] σ) fun t6=>
 A.test t6 (A.rd (Ya 7 [t0] σ) fun t7=>A.rd (Yi 2 8 [t7,(h0 v5)] σ) fun t8=>A.rd (Ze true 8 [t8] σ) fun t9=>A.wr (Yf zq3 [] σ) σ fun t10 σ=>
 A.wr (Zc 8 [t10,t9] σ) σ fun _ σ=>A.rd (Ya 3 [t10] σ) fun t11=>A.rd (Qa [t11] σ) fun t12=>A.rd (Qg [t12] σ) fun t13=>A.rd (Ya 4 [t10] σ) fun t14=>
 A.rd (Qa [t14] σ) fun t15=>A.rd (Qg [t15] σ) fun t16=>A.rd (Qb .add false [t13,t16] σ) fun t17=>A.rd (Ya 5 [t10] σ) fun t18=>A.rd (Qa [t18] σ) fun t19=>
 A.rd (Qg [t19] σ) fun t20=>A.rd (Qb .add false [t17,t20] σ) fun t21=>A.rd (Ya 6 [t10] σ) fun t22=>A.rd (Qa [t22] σ) fun t23=>A.rd (Qg [t23] σ) fun t24=>
 A.rd (Qb .add false [t21,t24] σ) fun t25=>A.rd (Ya 7 [t10] σ) fun t26=>A.rd (Qa [t26] σ) fun t27=>A.rd (Qg [t27] σ) fun t28=>A.rd (Qb .add false [t25,t28] σ) fun t29=>
 A.rd (Qb .add false [(h1 v5),t29] σ) fun t30=>A.rd (Qb .add false [(h0 v5),jv 1] σ) fun t31=>ag4 [t31,t30] σ) (A.rd (Qb .gtr false [(h1 v5),jv 2000] σ) fun t32=>
 ret t32 σ)) [jv 0,t3] σ
 | _=>A.stop
abbrev n15:List (Option (List Nat)):=[none,some [9,3],none,none]
theorem g15_ok:GOk prog GL0 15 1 g15:=gok1 (l:=n15) (by kernel_rfl) fun _ _ _ _ _=>by kernel_rfl
def g16:GFun:=fun A xs σ ret=>match xs with
 | [x0,x1]=>
 A.wr (Zo [x0] σ) σ fun t0 σ=>A.wr (Zo [x1] σ) σ fun t1 σ=>A.rd (Ze true 2 [t0] σ) fun t2=>A.rd (Ze true 23 [t1] σ) fun t3=>A.call (.call 25) [t2,t3,.bool false] σ fun t4 σ=>
 A.rd (Yp .not [t4] σ) fun t5=>A.test t5 (ret (jv 170) σ) (ret (jv 0) σ)
 | _=>A.stop
abbrev n16:List (Option (List Nat)):=[none]
theorem g16_ok:GOk prog GL0 16 2 g16:=gok2 (l:=n16) (by kernel_rfl) fun _ _ _ _ _ _=>by kernel_rfl
def g17:GFun:=fun A xs σ ret=>match xs with
 | []=>
 A.call (.call 53) [] σ fun t0 σ=>A.rd (Qe 0 [t0] σ) fun t1=>A.rd (Qe 1 [t0] σ) fun t2=>A.wr (Yf [.nils,.nils] [] σ) σ fun t3 σ=>A.wr (Yf zq0 [] σ) σ fun t4 σ=>
 A.wr (Zc 2 [t3,t1] σ) σ fun _ σ=>A.wr (Zc 23 [t4,t2] σ) σ fun _ σ=>A.rd (Ze true 2 [t3] σ) fun t5=>A.rd (Ze true 23 [t4] σ) fun t6=>A.call (.call 54) [t5,t6,jv 1] σ fun t7 σ=>
 A.rd (Qe 0 [t7] σ) fun t8=>A.rd (Qe 1 [t7] σ) fun t9=>A.rd (Qe 2 [t7] σ) fun t10=>A.rd (Ze true 2 [t3] σ) fun t11=>A.rd (Ze true 23 [t4] σ) fun t12=>
 A.call (.call 18) [t11,t12,jv 0] σ fun t13 σ=>A.rd (Qe 0 [t13] σ) fun t14=>A.rd (Qe 1 [t13] σ) fun t15=>A.rd (Qe 2 [t13] σ) fun t16=>
 A.wr (Yf zq0 [] σ) σ fun t17 σ=>A.wr (Yf zq1 [] σ) σ fun t18 σ=>A.wr (Zc 23 [t17,t14] σ) σ fun _ σ=>A.wr (Zc 7 [t18,t15] σ) σ fun _ σ=>
 A.rd (Ze true 2 [t3] σ) fun t19=>A.rd (Ze true 23 [t4] σ) fun t20=>A.call (.call 22) [t19,t20,jv 1,jv 0,jv 3] σ fun t21 σ=>A.rd (Qe 0 [t21] σ) fun t22=>
 A.rd (Qe 1 [t21] σ) fun t23=>A.rd (Qe 2 [t21] σ) fun t24=>A.wr (Yf zq0 [] σ) σ fun t25 σ=>A.wr (Yf zq1 [] σ) σ fun t26 σ=>A.wr (Zc 23 [t25,t22] σ) σ fun _ σ=>
 A.wr (Zc 7 [t26,t23] σ) σ fun _ σ=>A.rd (Ze true 2 [t3] σ) fun t27=>A.rd (Ze true 23 [t4] σ) fun t28=>A.wr (Yl 1 1 [jv 0] [(0,1)] [jv 1] σ) σ fun t29 σ=>
 A.call (.call 27) [t27,t28,t29] σ fun t30 σ=>A.rd (Qe 0 [t30] σ) fun t31=>A.rd (Qe 1 [t30] σ) fun t32=>A.wr (Yf zq0 [] σ) σ fun t33 σ=>
 A.wr (Zc 23 [t33,t31] σ) σ fun _ σ=>A.rd (Ze true 2 [t3] σ) fun t34=>A.rd (Ze true 23 [t4] σ) fun t35=>A.call (.call 55) [t34,t35] σ fun t36 σ=>
 A.rd (Qb .eql false [t36,jv 0] σ) fun t37=>A.got t37 (Ze true 2 [t3] σ) fun t38=>A.got t37 (Xg zq0 [] [] σ) fun t39=>A.gw t37 true (fun k=>A.call (.call 55) [t38,t39] σ k) σ fun t40 σ=>
 A.got t37 (Qb .eql false [t40,jv 170] σ) fun t41=>A.rd (Qc [t37,t41,.bool false] σ) fun t42=>A.got t42 (Zj [t10] σ) fun t43=>A.rd (Qc [t42,t43,.bool false] σ) fun t44=>
 A.got t44 (Zj [t8] σ) fun t45=>A.got t44 (Qb .eql false [t45,jv 3] σ) fun t46=>A.rd (Qc [t44,t46,.bool false] σ) fun t47=>A.got t47 (Zj [t9] σ) fun t48=>
 A.got t47 (Qb .eql false [t48,jv 2] σ) fun t49=>A.rd (Qc [t47,t49,.bool false] σ) fun t50=>A.got t50 (Zj [t16] σ) fun t51=>A.got t50 (Qb .eql false [t51,jv 0] σ) fun t52=>
 A.rd (Qc [t50,t52,.bool false] σ) fun t53=>A.got t53 (Ya 7 [t17] σ) fun t54=>A.got t53 (Yi 2 8 [t54,jv 0] σ) fun t55=>A.got t53 (Ya 0 [t55] σ) fun t56=>
 A.got t53 (Qa [t56] σ) fun t57=>A.got t53 (Qb .eql false [t57,jv 19] σ) fun t58=>A.rd (Qc [t53,t58,.bool false] σ) fun t59=>A.got t59 (Ya 2 [t18] σ) fun t60=>
 A.got t59 (Qa [t60] σ) fun t61=>A.got t59 (Qb .eql false [t61,jv (-1)] σ) fun t62=>A.rd (Qc [t59,t62,.bool false] σ) fun t63=>A.got t63 (Zj [t24] σ) fun t64=>
 A.got t63 (Qb .eql false [t64,jv 0] σ) fun t65=>A.rd (Qc [t63,t65,.bool false] σ) fun t66=>A.got t66 (Ya 5 [t26] σ) fun t67=>A.got t66 (Qa [t67] σ) fun t68=>
 A.got t66 (Qb .eql false [t68,jv 2] σ) fun t69=>A.rd (Qc [t66,t69,.bool false] σ) fun t70=>A.got t70 (Ya 7 [t25] σ) fun t71=>A.got t70 (Yi 2 8 [t71,jv 0] σ) fun t72=>
 A.got t70 (Ya 6 [t72] σ) fun t73=>A.got t70 (Qa [t73] σ) fun t74=>A.got t70 (Qg [t74] σ) fun t75=>A.got t70 (Qb .eql false [t75,jv 2] σ) fun t76=>
 A.rd (Qc [t70,t76,.bool false] σ) fun t77=>A.got t77 (Ya 7 [t25] σ) fun t78=>A.got t77 (Yi 2 8 [t78,jv 0] σ) fun t79=>A.got t77 (Ya 6 [t79] σ) fun t80=>
 A.got t77 (Qa [t80] σ) fun t81=>A.got t77 (Xd 4 [t81,jv 0] σ) fun t82=>A.got t77 (Ya 2 [t82] σ) fun t83=>A.got t77 (Qa [t83] σ) fun t84=>
 A.got t77 (Qb .eql false [t84,jv 2] σ) fun t85=>A.rd (Qc [t77,t85,.bool false] σ) fun t86=>A.got t86 (Ya 7 [t33] σ) fun t87=>A.got t86 (Yi 2 8 [t87,jv 0] σ) fun t88=>
 A.got t86 (Ya 6 [t88] σ) fun t89=>A.got t86 (Qa [t89] σ) fun t90=>A.got t86 (Qg [t90] σ) fun t91=>A.got t86 (Qb .eql false [t91,jv 1] σ) fun t92=>
 A.rd (Qc [t86,t92,.bool false] σ) fun t93=>A.got t93 (Zj [t32] σ) fun t94=>A.got t93 (Qg [t94] σ) fun t95=>A.got t93 (Qb .eql false [t95,jv 1] σ) fun t96=>
 A.rd (Qc [t93,t96,.bool false] σ) fun t97=>ret t97 σ
 | _=>A.stop
abbrev n17:List (Option (List Nat)):=[]
theorem g17_ok:GOk prog GL0 17 0 g17:=gok0 (l:=n17) (by kernel_rfl) fun _ _ _ _=>by kernel_rfl
def g18:GFun:=fun A xs σ ret=>match xs with
 | [x0,x1,x2]=>
 A.wr (Zo [x0] σ) σ fun t0 σ=>A.wr (Zo [x1] σ) σ fun t1 σ=>A.wr (Yf zq0 [] σ) σ fun t2 σ=>A.wr (Yf zq1 [] σ) σ fun t3 σ=>A.call (.call 56) [t0,t1] σ fun t4 σ=>
 A.rd (XP .ptr false false [t4,.nilp] σ) fun t5=>A.test t5 (A.rd (Xg zq0 [] [] σ) fun t6=>A.rd (Xg zq1 [] [] σ) fun t7=>A.wr (Zc 23 [t2,t6] σ) σ fun _ σ=>
 A.wr (Zc 7 [t3,t7] σ) σ fun _ σ=>A.opt (cellV true 23 t2 σ) fun r8=>A.opt (cellV true 7 t3 σ) fun r9=>ret (.tup [r8,r9,jv 170]) σ) (A.rd (Qb .lss false [x2,jv 0] σ) fun t10=>
 A.gof t10 (Zj [x2] σ) fun t11=>A.gof t10 (Qb .gtr false [t11,jv 1] σ) fun t12=>A.rd (Qc [t10,.bool true,t12] σ) fun t13=>A.test t13 (A.rd (Xg zq0 [] [] σ) fun t14=>
 A.rd (Xg zq1 [] [] σ) fun t15=>A.wr (Zc 23 [t2,t14] σ) σ fun _ σ=>A.wr (Zc 7 [t3,t15] σ) σ fun _ σ=>A.opt (cellV true 23 t2 σ) fun r16=>A.opt (cellV true 7 t3 σ) fun r17=>
 ret (.tup [r16,r17,jv 2]) σ) (A.rd (Xb [t4] σ) fun t18=>A.rd (Ya 1 [t18] σ) fun t19=>A.rd (Ya 7 [t19] σ) fun t20=>A.rd (Yi 2 8 [t20,x2] σ) fun t21=>
 A.rd (Xg zq1 [(0,1),(1,1)] [.int .i8 3,x2] σ) fun t22=>A.wr (Yf zq1 [] σ) σ fun t23 σ=>A.wr (Zc 7 [t23,t22] σ) σ fun _ σ=>joinK (fun k24=>
 A.rd (Xb [t21] σ) fun t26=>A.rd (Ya 3 [t26] σ) fun t27=>A.rd (Qa [t27] σ) fun t28=>A.rd (Qg [t28] σ) fun t29=>A.rd (Qb .eql false [t29,jv 0] σ) fun t30=>
 A.test t30 (A.rd (Ya 2 [t23] σ) fun t31=>A.wr (Zc 1 [t31,jv (-1)] σ) σ fun _ σ=>A.rd (Xb [t21] σ) fun t32=>A.rd (Ya 0 [t32] σ) fun t33=>
 A.rd (Qa [t33] σ) fun t34=>A.rd (Qb .sub false [t34,jv 1] σ) fun t35=>A.rd (Xb [t21] σ) fun t36=>A.rd (Ya 0 [t36] σ) fun t37=>A.wr (Zc 1 [t37,t35] σ) σ fun _ σ=>
 A.rd (Xb [t21] σ) fun t38=>A.rd (Ya 0 [t38] σ) fun t39=>A.rd (Qa [t39] σ) fun t40=>A.call (.call 57) [t40] σ fun t41 σ=>A.rd (Yp .not [t41] σ) fun t42=>
 A.test t42 (A.rd (Xg zq0 [] [] σ) fun t43=>A.rd (Xg zq1 [] [] σ) fun t44=>A.wr (Zc 23 [t2,t43] σ) σ fun _ σ=>A.wr (Zc 7 [t3,t44] σ) σ fun _ σ=>
 A.opt (cellV true 23 t2 σ) fun r45=>A.opt (cellV true 7 t3 σ) fun r46=>ret (.tup [r45,r46,jv 171]) σ) (k24 [] σ)) (A.rd (Xb [t21] σ) fun t47=>A.rd (Ya 4 [t47] σ) fun t48=>
 A.rd (Qa [t48] σ) fun t49=>A.rd (Qg [t49] σ) fun t50=>A.rd (Qb .geq false [t50,jv 10] σ) fun t51=>A.test t51 (A.rd (Ya 0 [t23] σ) fun t52=>
 A.wr (Zc 1 [t52,.int .i8 4] σ) σ fun _ σ=>A.pu (Xb [t21] σ) fun t53=>A.pu (Ya 3 [t53] σ) fun t54=>A.pu (Xb [t21] σ) fun t55=>
 A.pu (Ya 5 [t55] σ) fun t56=>A.dcall (.call 58) [t54,t56] σ fun t57 l58 σ=>A.pu (Ya 2 [t23] σ) fun t59=>A.dr (Zc 1 [t59,t57] σ) σ fun _ l60 σ=>
 A.gd (Xk [[],[0],[0,1],[],[3],[3,4],[0,1,2,3,4,5],[0,1,2,3,4,5,6],[0,1,2,3,4,5,6,7]] [([],[]),([],[]),([],[]),([],[]),([],[]),([],[]),l58,([],[]),l60]) <|
 A.loop (fun ag61 v62 σ=>A.rd (Qb .lss false [(h0 v62),jv 2] σ) fun t63=>A.test t63 (A.pu (Xb [t4] σ) fun t64=>A.pu (Ya 1 [t64] σ) fun t65=>
 A.pu (Ya 7 [t65] σ) fun t66=>A.pu (Yi 2 8 [t66,(h0 v62)] σ) fun t67=>A.pu (Ya 7 [t67] σ) fun t68=>A.dr (Qa [t68] σ) σ fun t69 l70 σ=>
 A.pu (Ya 2 [t23] σ) fun t71=>A.dr (Qa [t71] σ) σ fun t72 l73 σ=>A.dr (Yl 1 1 [jv 0] [(0,1)] [t72] σ) σ fun t74 l75 σ=>A.dr (Yk 1 8 [t69,t74] σ) σ fun t76 l77 σ=>
 A.pu (Xb [t4] σ) fun t78=>A.pu (Ya 1 [t78] σ) fun t79=>A.pu (Ya 7 [t79] σ) fun t80=>A.pu (Yi 2 8 [t80,(h0 v62)] σ) fun t81=>
 A.pu (Ya 7 [t81] σ) fun t82=>A.dr (Zc 1 [t82,t76] σ) σ fun _ l83 σ=>A.gd (Xk [[],[],[],[],[2],[2,4],[2,4,5],[2,3,4,5,6],[2,3,4,5,6,7],[2,3,4,5,6,7,8],[],[10],[10,11],[2,3,4,5,6,7,8,9,10,11,12],[0],[0,14],[0,14,15],[0,1,2,3,4,5,6,7,8,9,10,11,12,13,14,15,16],[0,1,2,3,4,5,6,7,8,9,10,11,12,13,14,15,16,17],[0,1,2,3,4,5,6,7,8,9,10,11,12,13,14,15,16,17,18]] [([],[]),([],[]),([],[]),([],[]),([],[]),([],[]),([],[]),([],[]),([],[]),l70,([],[]),l73,l75,l77,([],[]),([],[]),([],[]),([],[]),([],[]),l83]) <|
 A.rd (Qb .add false [(h0 v62),jv 1] σ) fun t84=>ag61 [t84] σ) (k24 [] σ)) [jv 0] σ) (A.pu (Xb [t21] σ) fun t85=>A.pu (Ya 3 [t85] σ) fun t86=>
 A.pu (Xb [t21] σ) fun t87=>A.pu (Ya 4 [t87] σ) fun t88=>A.dcall (.call 58) [t86,t88] σ fun t89 l90 σ=>A.pu (Ya 2 [t23] σ) fun t91=>
 A.dr (Zc 1 [t91,t89] σ) σ fun _ l92 σ=>A.gd (Xk [[],[0],[0,1],[],[3],[3,4],[0,1,2,3,4,5],[0,1,2,3,4,5,6],[0,1,2,3,4,5,6,7]] [([],[]),([],[]),([],[]),([],[]),([],[]),([],[]),l90,([],[]),l92]) <|
 A.pu (Xb [t21] σ) fun t93=>A.pu (Ya 7 [t93] σ) fun t94=>A.dr (Qa [t94] σ) σ fun t95 l96 σ=>A.pu (Ya 2 [t23] σ) fun t97=>A.dr (Qa [t97] σ) σ fun t98 l99 σ=>
 A.dr (Yl 1 1 [jv 0] [(0,1)] [t98] σ) σ fun t100 l101 σ=>A.dr (Yk 1 8 [t95,t100] σ) σ fun t102 l103 σ=>A.pu (Xb [t21] σ) fun t104=>A.pu (Ya 7 [t104] σ) fun t105=>
 A.dr (Zc 1 [t105,t102] σ) σ fun _ l106 σ=>A.gd (Xk [[],[],[1],[1,2],[1,2,3],[],[5],[5,6],[1,2,3,4,5,6,7],[0,1,2,3,4,5,6,7,8],[0,1,2,3,4,5,6,7,8,9],[0,1,2,3,4,5,6,7,8,9,10]] [([],[]),([],[]),([],[]),([],[]),l96,([],[]),l99,l101,l103,([],[]),([],[]),l106]) <|
 k24 [] σ))) (fun v25 σ=>A.pu (Xb [t4] σ) fun t107=>A.pu (Ya 1 [t107] σ) fun t108=>A.dr (Ze true 23 [t108] σ) σ fun t109 l110 σ=>A.dcall (.call 59) [t109] σ fun t111 l112 σ=>
 A.dr (Ze true 7 [t23] σ) σ fun t113 l114 σ=>A.dr (Zc 23 [t2,t111] σ) σ fun _ l115 σ=>A.dr (Zc 7 [t3,t113] σ) σ fun _ l116 σ=>A.gd (Xk [[],[0],[0,1],[0,1,2],[0,1,2,3],[],[0,1,2,3,4],[0,1,2,3,4,5,6],[0,1,2,3,4,5,6,7]] [([],[]),([],[]),([],[]),l110,l112,l114,l115,l116,([],[])]) <|
 A.opt (cellV true 23 t2 σ) fun r117=>A.opt (cellV true 7 t3 σ) fun r118=>ret (.tup [r117,r118,jv 0]) σ)))
 | _=>A.stop
abbrev n18:List (Option (List Nat)):=[none,none,none,some [],none,none,none,none,some [94],none,none]
theorem g18_ok:GOk prog GL0 18 3 g18:=gok3 (l:=n18) (by kernel_rfl) fun _ _ _ _ _ _ _=>by kernel_rfl
def g19:GFun:=fun A xs σ ret=>match xs with
 | [x0]=>
 A.wr (Zo [x0] σ) σ fun t0 σ=>A.wr (Yf zq0 [] σ) σ fun t1 σ=>A.rd (Ze true 23 [t0] σ) fun t2=>A.wr (Yf zq0 [] σ) σ fun t3 σ=>A.wr (Zc 23 [t3,t2] σ) σ fun _ σ=>
 A.rd (Ya 5 [t0] σ) fun t4=>A.rd (Qa [t4] σ) fun t5=>A.call (.call 60) [t5] σ fun t6 σ=>A.rd (Ya 5 [t3] σ) fun t7=>A.wr (Zc 1 [t7,t6] σ) σ fun _ σ=>
 A.loop (fun ag8 v9 σ=>A.rd (Qb .lss false [(h0 v9),jv 2] σ) fun t10=>A.test t10 (A.rd (Ya 7 [t0] σ) fun t11=>A.rd (Yi 2 8 [t11,(h0 v9)] σ) fun t12=>
 A.rd (Ze true 8 [t12] σ) fun t13=>A.wr (Yf zq3 [] σ) σ fun t14 σ=>A.wr (Zc 8 [t14,t13] σ) σ fun _ σ=>A.pu (Ya 0 [t14] σ) fun t15=>A.dr (Qa [t15] σ) σ fun t16 l17 σ=>
 A.pu (Ya 1 [t14] σ) fun t18=>A.dr (Qa [t18] σ) σ fun t19 l20 σ=>A.pu (Ya 2 [t14] σ) fun t21=>A.dr (Qa [t21] σ) σ fun t22 l23 σ=>
 A.pu (Ya 3 [t14] σ) fun t24=>A.dr (Qa [t24] σ) σ fun t25 l26 σ=>A.dcall (.call 60) [t25] σ fun t27 l28 σ=>A.pu (Ya 4 [t14] σ) fun t29=>
 A.dr (Qa [t29] σ) σ fun t30 l31 σ=>A.dcall (.call 60) [t30] σ fun t32 l33 σ=>A.pu (Ya 5 [t14] σ) fun t34=>A.dr (Qa [t34] σ) σ fun t35 l36 σ=>
 A.dcall (.call 60) [t35] σ fun t37 l38 σ=>A.pu (Ya 6 [t14] σ) fun t39=>A.dr (Qa [t39] σ) σ fun t40 l41 σ=>A.dcall (.call 61) [t40] σ fun t42 l43 σ=>
 A.pu (Ya 7 [t14] σ) fun t44=>A.dr (Qa [t44] σ) σ fun t45 l46 σ=>A.dcall (.call 60) [t45] σ fun t47 l48 σ=>A.pu (Xg zq3 [(0,1),(1,1),(2,1),(3,1),(4,1),(5,1),(6,1),(7,1)] [t16,t19,t22,t27,t32,t37,t42,t47] σ) fun t49=>
 A.pu (Ya 7 [t3] σ) fun t50=>A.pu (Yi 2 8 [t50,(h0 v9)] σ) fun t51=>A.dr (Zc 8 [t51,t49] σ) σ fun _ l52 σ=>A.gd (Xk [[],[],[1],[],[3],[],[5],[],[7],[7,8],[],[10],[7,8,9,10,11],[],[13],[7,8,9,10,11,12,13,14],[],[16],[7,8,9,10,11,12,13,14,15,16,17],[],[19],[7,8,9,10,11,12,13,14,15,16,17,18,19,20],[1,2,3,4,5,6,7,8,9,10,11,12,13,14,15,16,17,18,19,20,21],[],[0,1,2,3,4,5,6,7,8,9,10,11,12,13,14,15,16,17,18,19,20,21,22,23],[0,1,2,3,4,5,6,7,8,9,10,11,12,13,14,15,16,17,18,19,20,21,22,23,24]] [([],[]),([],[]),l17,([],[]),l20,([],[]),l23,([],[]),l26,l28,([],[]),l31,l33,([],[]),l36,l38,([],[]),l41,l43,([],[]),l46,l48,([],[]),([],[]),([],[]),l52]) <|
 A.rd (Qb .add false [(h0 v9),jv 1] σ) fun t53=>ag8 [t53] σ) (A.rd (Ze true 23 [t3] σ) fun t54=>A.wr (Zc 23 [t1,t54] σ) σ fun _ σ=>A.opt (cellV true 23 t1 σ) fun r55=>
 ret r55 σ)) [jv 0] σ
 | _=>A.stop
abbrev n19:List (Option (List Nat)):=[none,some [4],none,none]
theorem g19_ok:GOk prog GL0 19 1 g19:=gok1 (l:=n19) (by kernel_rfl) fun _ _ _ _ _=>by kernel_rfl
def g20:GFun:=fun A xs σ ret=>match xs with
 | [x0,x1]=>
 A.wr (Zo [x0] σ) σ fun t0 σ=>A.wr (Zo [x1] σ) σ fun t1 σ=>A.rd (Ya 0 [t0] σ) fun t2=>A.rd (Qa [t2] σ) fun t3=>A.rd (Ya 0 [t1] σ) fun t4=>
 A.rd (Qa [t4] σ) fun t5=>A.rd (Qb .neq false [t3,t5] σ) fun t6=>A.gof t6 (Ya 1 [t0] σ) fun t7=>A.gof t6 (Qa [t7] σ) fun t8=>A.gof t6 (Ya 1 [t1] σ) fun t9=>
 A.gof t6 (Qa [t9] σ) fun t10=>A.gof t6 (Qb .neq false [t8,t10] σ) fun t11=>A.rd (Qc [t6,.bool true,t11] σ) fun t12=>A.gof t12 (Ya 2 [t0] σ) fun t13=>
 A.gof t12 (Qa [t13] σ) fun t14=>A.gof t12 (Ya 2 [t1] σ) fun t15=>A.gof t12 (Qa [t15] σ) fun t16=>A.gof t12 (Qb .neq false [t14,t16] σ) fun t17=>
 A.rd (Qc [t12,.bool true,t17] σ) fun t18=>A.gof t18 (Ya 3 [t0] σ) fun t19=>A.gof t18 (Qa [t19] σ) fun t20=>A.gof t18 (Ya 3 [t1] σ) fun t21=>
 A.gof t18 (Qa [t21] σ) fun t22=>A.gof t18 (Qb .neq true [t20,t22] σ) fun t23=>A.rd (Qc [t18,.bool true,t23] σ) fun t24=>A.gof t24 (Ya 4 [t0] σ) fun t25=>
 A.gof t24 (Qa [t25] σ) fun t26=>A.gof t24 (Ya 4 [t1] σ) fun t27=>A.gof t24 (Qa [t27] σ) fun t28=>A.gof t24 (Qb .neq false [t26,t28] σ) fun t29=>
 A.rd (Qc [t24,.bool true,t29] σ) fun t30=>A.gof t30 (Ya 6 [t0] σ) fun t31=>A.gof t30 (Qa [t31] σ) fun t32=>A.gof t30 (Ya 6 [t1] σ) fun t33=>
 A.gof t30 (Qa [t33] σ) fun t34=>A.gof t30 (Qb .neq false [t32,t34] σ) fun t35=>A.rd (Qc [t30,.bool true,t35] σ) fun t36=>A.gof t36 (Ya 5 [t0] σ) fun t37=>
 A.gof t36 (Qa [t37] σ) fun t38=>A.gof t36 (Ya 5 [t1] σ) fun t39=>A.gof t36 (Qa [t39] σ) fun t40=>A.gw t36 false (fun k=>A.call (.call 62) [t38,t40] σ k) σ fun t41 σ=>
 A.gof t36 (Yp .not [t41] σ) fun t42=>A.rd (Qc [t36,.bool true,t42] σ) fun t43=>A.test t43 (ret (.bool false) σ) (A.loop (fun ag44 v45 σ=>A.rd (Qb .lss false [(h0 v45),jv 2] σ) fun t46=>
 A.test t46 (A.pu (Ya 7 [t0] σ) fun t47=>A.pu (Yi 2 8 [t47,(h0 v45)] σ) fun t48=>A.dr (Ze true 8 [t48] σ) σ fun t49 l50 σ=>A.pu (Ya 7 [t1] σ) fun t51=>
 A.pu (Yi 2 8 [t51,(h0 v45)] σ) fun t52=>A.dr (Ze true 8 [t52] σ) σ fun t53 l54 σ=>A.dr (Yf zq3 [] σ) σ fun t55 l56 σ=>A.dr (Yf zq3 [] σ) σ fun t57 l58 σ=>
 A.dr (Zc 8 [t55,t49] σ) σ fun _ l59 σ=>A.dr (Zc 8 [t57,t53] σ) σ fun _ l60 σ=>A.gd (Xk [[],[],[0,1],[0,1,2],[],[],[4,5],[4,5,6],[],[],[0,1,2,3,8,9],[0,1,2,3,4,5,6,7,8,9,10]] [([],[]),([],[]),([],[]),l50,([],[]),([],[]),([],[]),l54,l56,l58,l59,l60]) <|
 A.rd (Ya 0 [t55] σ) fun t61=>A.rd (Qa [t61] σ) fun t62=>A.rd (Ya 0 [t57] σ) fun t63=>A.rd (Qa [t63] σ) fun t64=>A.rd (Qb .neq false [t62,t64] σ) fun t65=>
 A.gof t65 (Ya 1 [t55] σ) fun t66=>A.gof t65 (Qa [t66] σ) fun t67=>A.gof t65 (Ya 1 [t57] σ) fun t68=>A.gof t65 (Qa [t68] σ) fun t69=>
 A.gof t65 (Qb .neq false [t67,t69] σ) fun t70=>A.rd (Qc [t65,.bool true,t70] σ) fun t71=>A.gof t71 (Ya 2 [t55] σ) fun t72=>A.gof t71 (Qa [t72] σ) fun t73=>
 A.gof t71 (Ya 2 [t57] σ) fun t74=>A.gof t71 (Qa [t74] σ) fun t75=>A.gof t71 (Qb .neq false [t73,t75] σ) fun t76=>A.rd (Qc [t71,.bool true,t76] σ) fun t77=>
 A.gof t77 (Ya 3 [t55] σ) fun t78=>A.gof t77 (Qa [t78] σ) fun t79=>A.gof t77 (Ya 3 [t57] σ) fun t80=>A.gof t77 (Qa [t80] σ) fun t81=>
 A.gw t77 false (fun k=>A.call (.call 62) [t79,t81] σ k) σ fun t82 σ=>A.gof t77 (Yp .not [t82] σ) fun t83=>A.rd (Qc [t77,.bool true,t83] σ) fun t84=>
 A.gof t84 (Ya 4 [t55] σ) fun t85=>A.gof t84 (Qa [t85] σ) fun t86=>A.gof t84 (Ya 4 [t57] σ) fun t87=>A.gof t84 (Qa [t87] σ) fun t88=>
 A.gw t84 false (fun k=>A.call (.call 62) [t86,t88] σ k) σ fun t89 σ=>A.gof t84 (Yp .not [t89] σ) fun t90=>A.rd (Qc [t84,.bool true,t90] σ) fun t91=>
 A.gof t91 (Ya 5 [t55] σ) fun t92=>A.gof t91 (Qa [t92] σ) fun t93=>A.gof t91 (Ya 5 [t57] σ) fun t94=>A.gof t91 (Qa [t94] σ) fun t95=>
 A.gw t91 false (fun k=>A.call (.call 62) [t93,t95] σ k) σ fun t96 σ=>A.gof t91 (Yp .not [t96] σ) fun t97=>A.rd (Qc [t91,.bool true,t97] σ) fun t98=>
 A.gof t98 (Ya 7 [t55] σ) fun t99=>A.gof t98 (Qa [t99] σ) fun t100=>A.gof t98 (Ya 7 [t57] σ) fun t101=>A.gof t98 (Qa [t101] σ) fun t102=>
 A.gw t98 false (fun k=>A.call (.call 62) [t100,t102] σ k) σ fun t103 σ=>A.gof t98 (Yp .not [t103] σ) fun t104=>A.rd (Qc [t98,.bool true,t104] σ) fun t105=>
 A.gof t105 (Ya 6 [t55] σ) fun t106=>A.gof t105 (Qa [t106] σ) fun t107=>A.gof t105 (Ya 6 [t57] σ) fun t108=>A.gof t105 (Qa [t108] σ) fun t109=>
 A.gw t105 false (fun k=>A.call (.call 63) [t107,t109] σ k) σ fun t110 σ=>A.gof t105 (Yp .not [t110] σ) fun t111=>A.rd (Qc [t105,.bool true,t111] σ) fun t112=>
 A.test t112 (ret (.bool false) σ) (A.rd (Qb .add false [(h0 v45),jv 1] σ) fun t113=>ag44 [t113] σ)) (ret (.bool true) σ)) [jv 0] σ)
 | _=>A.stop
abbrev n20:List (Option (List Nat)):=[none,none,some [5],none,none,none]
theorem g20_ok:GOk prog GL0 20 2 g20:=gok2 (l:=n20) (by kernel_rfl) fun _ _ _ _ _ _=>by kernel_rfl
def g21:GFun:=fun A xs σ ret=>match xs with
 | [x0,x1,x2,x3]=>
 A.wr (Zo [x0] σ) σ fun t0 σ=>A.wr (Zo [x1] σ) σ fun t1 σ=>A.wr (Yf zq0 [] σ) σ fun t2 σ=>A.wr (Yf zq1 [] σ) σ fun t3 σ=>A.call (.call 56) [t0,t1] σ fun t4 σ=>
 A.rd (XP .ptr false false [t4,.nilp] σ) fun t5=>A.gof t5 (Zj [x2] σ) fun t6=>A.gof t5 (Qb .lss false [t6,jv 0] σ) fun t7=>A.rd (Qc [t5,.bool true,t7] σ) fun t8=>
 A.gof t8 (Zj [x2] σ) fun t9=>A.gof t8 (Qb .gtr false [t9,jv 1] σ) fun t10=>A.rd (Qc [t8,.bool true,t10] σ) fun t11=>A.gof t11 (Zj [x3] σ) fun t12=>
 A.gof t11 (Qb .lss false [t12,jv 0] σ) fun t13=>A.rd (Qc [t11,.bool true,t13] σ) fun t14=>A.gof t14 (Zj [x3] σ) fun t15=>A.gof t14 (Ya 0 [t0] σ) fun t16=>
 A.gof t14 (Qa [t16] σ) fun t17=>A.gof t14 (Qg [t17] σ) fun t18=>A.gof t14 (Qb .geq false [t15,t18] σ) fun t19=>A.rd (Qc [t14,.bool true,t19] σ) fun t20=>
 A.gof t20 (Ya 0 [t0] σ) fun t21=>A.gof t20 (Qa [t21] σ) fun t22=>A.gof t20 (Zj [x3] σ) fun t23=>A.gof t20 (Xd 12 [t22,t23] σ) fun t24=>
 A.gof t20 (Ya 1 [t24] σ) fun t25=>A.gof t20 (Qa [t25] σ) fun t26=>A.gof t20 (Yp .not [t26] σ) fun t27=>A.rd (Qc [t20,.bool true,t27] σ) fun t28=>
 A.gof t28 (Zj [x2] σ) fun t29=>A.gof t28 (Ya 7 [t1] σ) fun t30=>A.gof t28 (Yi 2 8 [t30,t29] σ) fun t31=>A.gof t28 (Ya 6 [t31] σ) fun t32=>
 A.gof t28 (Qa [t32] σ) fun t33=>A.gof t28 (Qg [t33] σ) fun t34=>A.gof t28 (Qb .geq false [t34,jv 7] σ) fun t35=>A.rd (Qc [t28,.bool true,t35] σ) fun t36=>
 A.gof t36 (Ya 6 [t1] σ) fun t37=>A.gof t36 (Qa [t37] σ) fun t38=>A.gof t36 (Qb .geq false [t38,jv 1000000] σ) fun t39=>A.rd (Qc [t36,.bool true,t39] σ) fun t40=>
 A.test t40 (A.rd (Xg zq0 [] [] σ) fun t41=>A.rd (Xg zq1 [] [] σ) fun t42=>A.wr (Zc 23 [t2,t41] σ) σ fun _ σ=>A.wr (Zc 7 [t3,t42] σ) σ fun _ σ=>
 A.opt (cellV true 23 t2 σ) fun r43=>A.opt (cellV true 7 t3 σ) fun r44=>ret (.tup [r43,r44,.bool false]) σ) (A.rd (Xb [t4] σ) fun t45=>A.rd (Ya 1 [t45] σ) fun t46=>
 A.rd (Ya 7 [t46] σ) fun t47=>A.rd (Yi 2 8 [t47,x2] σ) fun t48=>A.pu (Xb [t48] σ) fun t49=>A.pu (Ya 6 [t49] σ) fun t50=>A.dr (Qa [t50] σ) σ fun t51 l52 σ=>
 A.pu (Ya 6 [t1] σ) fun t53=>A.dr (Qa [t53] σ) σ fun t54 l55 σ=>A.pu (Xg zq4 [(0,1),(1,1),(3,1)] [t54,x3,.bool true] σ) fun t56=>A.dr (Yl 4 1 zq4 [(0,4)] [t56] σ) σ fun t57 l58 σ=>
 A.dr (Yk 4 32 [t51,t57] σ) σ fun t59 l60 σ=>A.pu (Xb [t48] σ) fun t61=>A.pu (Ya 6 [t61] σ) fun t62=>A.dr (Zc 1 [t62,t59] σ) σ fun _ l63 σ=>
 A.gd (Xk [[],[],[1],[1,2],[1,2,3],[],[5],[],[5,6,7],[5,6,7,8],[1,2,3,4,5,6,7,8,9],[0,1,2,3,4,5,6,7,8,9,10],[0,1,2,3,4,5,6,7,8,9,10,11],[0,1,2,3,4,5,6,7,8,9,10,11,12]] [([],[]),([],[]),([],[]),([],[]),l52,([],[]),l55,([],[]),([],[]),l58,l60,([],[]),([],[]),l63]) <|
 A.rd (Xb [t4] σ) fun t64=>A.rd (Ya 1 [t64] σ) fun t65=>A.rd (Ya 6 [t65] σ) fun t66=>A.rd (Qa [t66] σ) fun t67=>A.rd (Qb .add false [t67,jv 1] σ) fun t68=>
 A.rd (Xb [t4] σ) fun t69=>A.rd (Ya 1 [t69] σ) fun t70=>A.rd (Ya 6 [t70] σ) fun t71=>A.wr (Zc 1 [t71,t68] σ) σ fun _ σ=>A.pu (Xb [t4] σ) fun t72=>
 A.pu (Ya 1 [t72] σ) fun t73=>A.dr (Ze true 23 [t73] σ) σ fun t74 l75 σ=>A.pu (Ya 6 [t1] σ) fun t76=>A.dr (Qa [t76] σ) σ fun t77 l78 σ=>
 A.pu (Xg zq1 [(0,1),(1,1),(2,1),(3,1)] [.int .i8 2,x2,x3,t77] σ) fun t79=>A.dr (Zc 23 [t2,t74] σ) σ fun _ l80 σ=>A.dr (Zc 7 [t3,t79] σ) σ fun _ l81 σ=>
 A.gd (Xk [[],[0],[0,1],[0,1,2],[],[],[],[6],[4,5,6,7],[0,1,2,3],[0,1,2,3,4,5,6,7,8,9],[0,1,2,3,4,5,6,7,8,9,10]] [([],[]),([],[]),([],[]),l75,([],[]),([],[]),([],[]),l78,([],[]),l80,l81,([],[])]) <|
 A.opt (cellV true 23 t2 σ) fun r82=>A.opt (cellV true 7 t3 σ) fun r83=>ret (.tup [r82,r83,.bool true]) σ)
 | _=>A.stop
abbrev n21:List (Option (List Nat)):=[none]
theorem g21_ok:GOk prog GL0 21 4 g21:=gok4 (l:=n21) (by kernel_rfl) fun _ _ _ _ _ _ _ _=>by kernel_rfl
def g22:GFun:=fun A xs σ ret=>match xs with
 | [x0,x1,x2,x3,x4]=>
 A.wr (Zo [x0] σ) σ fun t0 σ=>A.wr (Zo [x1] σ) σ fun t1 σ=>A.wr (Yf zq0 [] σ) σ fun t2 σ=>A.wr (Yf zq1 [] σ) σ fun t3 σ=>A.call (.call 64) [t0,t1,.int .i8 5,x2,x3,x4,(.func (.func 65) [] [])] σ fun t4 σ=>
 A.rd (Qe 0 [t4] σ) fun t5=>A.rd (Qe 1 [t4] σ) fun t6=>A.rd (Qe 2 [t4] σ) fun t7=>A.wr (Zc 23 [t2,t5] σ) σ fun _ σ=>A.wr (Zc 7 [t3,t6] σ) σ fun _ σ=>
 A.opt (cellV true 23 t2 σ) fun r8=>A.opt (cellV true 7 t3 σ) fun r9=>ret (.tup [r8,r9,t7]) σ
 | _=>A.stop
abbrev n22:List (Option (List Nat)):=[]
theorem g22_ok:GOk prog GL0 22 5 g22:=gok5 (l:=n22) (by kernel_rfl) fun _ _ _ _ _ _ _ _ _=>by kernel_rfl
def g23:GFun:=fun A xs σ ret=>match xs with
 | [x0,x1]=>
 A.wr (Zo [x0] σ) σ fun t0 σ=>A.loop (fun ag1 v2 σ=>A.rd (Qb .lss false [(h0 v2),jv 2] σ) fun t3=>A.test t3 (A.loop (fun ag4 v5 σ=>A.rd (Ya 7 [t0] σ) fun t6=>
 A.rd (Yi 2 8 [t6,(h0 v2)] σ) fun t7=>A.rd (Ya 6 [t7] σ) fun t8=>A.rd (Qa [t8] σ) fun t9=>A.rd (Qg [t9] σ) fun t10=>A.rd (Qb .lss false [(h0 v5),t10] σ) fun t11=>
 A.test t11 (A.rd (Ya 7 [t0] σ) fun t12=>A.rd (Yi 2 8 [t12,(h0 v2)] σ) fun t13=>A.rd (Ya 6 [t13] σ) fun t14=>A.rd (Qa [t14] σ) fun t15=>
 A.rd (Xd 4 [t15,(h0 v5)] σ) fun t16=>A.rd (Ya 0 [t16] σ) fun t17=>A.rd (Qa [t17] σ) fun t18=>A.rd (Qb .eql false [t18,x1] σ) fun t19=>
 A.test t19 (ret (.tup [(h0 v2),(h0 v5),.bool true]) σ) (A.rd (Qb .add false [(h0 v5),jv 1] σ) fun t20=>ag4 [t20] σ)) (A.rd (Qb .add false [(h0 v2),jv 1] σ) fun t21=>
 ag1 [t21] σ)) [jv 0] σ) (ret (.tup zq6) σ)) [jv 0] σ
 | _=>A.stop
abbrev n23:List (Option (List Nat)):=[none,some [7],none,none,none,some [8],none,none,none]
theorem g23_ok:GOk prog GL0 23 2 g23:=gok2 (l:=n23) (by kernel_rfl) fun _ _ _ _ _ _=>by kernel_rfl
def g25:GFun:=fun A xs σ ret=>match xs with
 | [x0,x1,x2]=>
 A.wr (Zo [x0] σ) σ fun t0 σ=>A.wr (Zo [x1] σ) σ fun t1 σ=>A.rd (Ze true 2 [t0] σ) fun t2=>A.call (.call 67) [t2] σ fun t3 σ=>A.rd (QaC false 0 1 [t3] σ) fun t4=>
 A.rd (Qb .neq false [t4,jv 0] σ) fun t5=>A.gof t5 (Ya 0 [t1] σ) fun t6=>A.gof t5 (Qa [t6] σ) fun t7=>A.gof t5 (Qb .lss false [t7,jv 1] σ) fun t8=>
 A.rd (Qc [t5,.bool true,t8] σ) fun t9=>A.gof t9 (Ya 0 [t1] σ) fun t10=>A.gof t9 (Qa [t10] σ) fun t11=>A.gof t9 (Qb .gtr false [t11,jv 4096] σ) fun t12=>
 A.rd (Qc [t9,.bool true,t12] σ) fun t13=>A.gof t13 (Ya 1 [t1] σ) fun t14=>A.gof t13 (Qa [t14] σ) fun t15=>A.gof t13 (Qb .lss false [t15,jv 0] σ) fun t16=>
 A.rd (Qc [t13,.bool true,t16] σ) fun t17=>A.gof t17 (Ya 1 [t1] σ) fun t18=>A.gof t17 (Qa [t18] σ) fun t19=>A.gof t17 (Qb .gtr false [t19,jv 1] σ) fun t20=>
 A.rd (Qc [t17,.bool true,t20] σ) fun t21=>A.gof t21 (Ya 2 [t1] σ) fun t22=>A.gof t21 (Qa [t22] σ) fun t23=>A.gof t21 (Qb .lss false [t23,.int .i8 0] σ) fun t24=>
 A.rd (Qc [t21,.bool true,t24] σ) fun t25=>A.gof t25 (Ya 2 [t1] σ) fun t26=>A.gof t25 (Qa [t26] σ) fun t27=>A.gof t25 (Qb .gtr false [t27,.int .i8 2] σ) fun t28=>
 A.rd (Qc [t25,.bool true,t28] σ) fun t29=>A.gof t29 (Ya 4 [t1] σ) fun t30=>A.gof t29 (Qa [t30] σ) fun t31=>A.gof t29 (Qb .lss false [t31,.int .i8 0] σ) fun t32=>
 A.rd (Qc [t29,.bool true,t32] σ) fun t33=>A.gof t33 (Ya 4 [t1] σ) fun t34=>A.gof t33 (Qa [t34] σ) fun t35=>A.gof t33 (Qb .gtr false [t35,.int .i8 3] σ) fun t36=>
 A.rd (Qc [t33,.bool true,t36] σ) fun t37=>A.test t37 (ret (.bool false) σ) (A.rd (Ya 4 [t1] σ) fun t38=>A.rd (Qa [t38] σ) fun t39=>A.rd (Qb .eql false [t39,.int .i8 0] σ) fun t40=>
 A.rd (Ya 2 [t1] σ) fun t41=>A.rd (Qa [t41] σ) fun t42=>A.rd (Qb .neq false [t42,.int .i8 2] σ) fun t43=>A.rd (Qb .neq true [t40,t43] σ) fun t44=>
 A.gof t44 (Ya 6 [t1] σ) fun t45=>A.gof t44 (Qa [t45] σ) fun t46=>A.gof t44 (Qb .lss false [t46,jv 1] σ) fun t47=>A.rd (Qc [t44,.bool true,t47] σ) fun t48=>
 A.gof t48 (Ya 6 [t1] σ) fun t49=>A.gof t48 (Qa [t49] σ) fun t50=>A.gof t48 (Qb .gtr false [t50,jv 1000000] σ) fun t51=>A.rd (Qc [t48,.bool true,t51] σ) fun t52=>
 A.gof t52 (Ze true 2 [t0] σ) fun t53=>A.gof t52 (Ze true 23 [t1] σ) fun t54=>A.gw t52 false (fun k=>A.call (.call 68) [t53,t54] σ k) σ fun t55 σ=>
 A.gof t52 (Yp .not [t55] σ) fun t56=>A.rd (Qc [t52,.bool true,t56] σ) fun t57=>A.test t57 (ret (.bool false) σ) (A.rd (Ya 2 [t1] σ) fun t58=>
 A.rd (Qa [t58] σ) fun t59=>A.rd (Qb .neq false [t59,.int .i8 1] σ) fun t60=>A.test t60 (A.rd (Ya 5 [t1] σ) fun t61=>A.rd (Qa [t61] σ) fun t62=>
 A.rd (Qg [t62] σ) fun t63=>A.rd (Qb .eql false [t63,jv 0] σ) fun t64=>ret t64 σ) (A.rd (Ya 5 [t1] σ) fun t65=>A.rd (Qa [t65] σ) fun t66=>
 A.rd (Qg [t66] σ) fun t67=>A.rd (Qb .eql false [t67,jv 0] σ) fun t68=>A.got t68 (Zj [x2] σ) fun t69=>A.got t68 (Yp .not [t69] σ) fun t70=>A.rd (Qc [t68,t70,.bool false] σ) fun t71=>
 A.gof t71 (Ya 3 [t1] σ) fun t72=>A.gof t71 (Qa [t72] σ) fun t73=>A.gof t71 (Yp .not [t73] σ) fun t74=>A.rd (Qc [t71,.bool true,t74] σ) fun t75=>
 A.gof t75 (Ya 5 [t1] σ) fun t76=>A.gof t75 (Qa [t76] σ) fun t77=>A.gof t75 (Qg [t77] σ) fun t78=>A.gof t75 (Qb .gtr false [t78,jv 7] σ) fun t79=>
 A.rd (Qc [t75,.bool true,t79] σ) fun t80=>A.test t80 (ret (.bool false) σ) (A.loop (fun ag81 v82 σ=>A.rd (Ya 5 [t1] σ) fun t83=>A.rd (Qa [t83] σ) fun t84=>
 A.rd (Qg [t84] σ) fun t85=>A.rd (Qb .lss false [(h0 v82),t85] σ) fun t86=>A.test t86 (A.dr (Ze true 23 [t1] σ) σ fun t87 l88 σ=>A.pu (Ya 5 [t1] σ) fun t89=>
 A.dr (Qa [t89] σ) σ fun t90 l91 σ=>A.dr (Xd 1 [t90,(h0 v82)] σ) σ fun t92 l93 σ=>A.dr (Qa [t92] σ) σ fun t94 l95 σ=>A.dcall (.call 23) [t87,t94] σ fun t96 l97 σ=>
 A.pu (Qe 0 [t96] σ) fun t98=>A.pu (Qe 1 [t96] σ) fun t99=>A.pu (Qe 2 [t96] σ) fun t100=>A.gd (Xk [[],[],[1],[],[1,2,3],[1,2,3,4],[0,1,2,3,4,5],[0,1,2,3,4,5,6],[0,1,2,3,4,5,6,7],[0,1,2,3,4,5,6,7],[0,1,2,3,4,5,6,7],[0,1,2,3,4,5,6,7,8],[0,1,2,3,4,5,6,7,8,9,11],[0,1,2,3,4,5,6,7,8,9,10,11,12]] [l88,([],[]),l91,([],[]),l93,l95,l97,([],[]),([],[]),([],[]),([],[]),([],[]),([],[]),([],[])]) <|
 A.rd (Yp .not [t100] σ) fun t101=>A.gof t101 (Zj [t98] σ) fun t102=>A.gof t101 (Ya 1 [t1] σ) fun t103=>A.gof t101 (Qa [t103] σ) fun t104=>
 A.gof t101 (Qb .neq false [t102,t104] σ) fun t105=>A.rd (Qc [t101,.bool true,t105] σ) fun t106=>A.test t106 (ret (.bool false) σ) (A.loop (fun ag107 v108 σ=>
 A.rd (Qb .lss false [(h0 v108),(h0 v82)] σ) fun t109=>A.test t109 (A.rd (Ya 5 [t1] σ) fun t110=>A.rd (Qa [t110] σ) fun t111=>A.rd (Xd 1 [t111,(h0 v108)] σ) fun t112=>
 A.rd (Qa [t112] σ) fun t113=>A.rd (Ya 5 [t1] σ) fun t114=>A.rd (Qa [t114] σ) fun t115=>A.rd (Xd 1 [t115,(h0 v82)] σ) fun t116=>A.rd (Qa [t116] σ) fun t117=>
 A.rd (Qb .eql false [t113,t117] σ) fun t118=>A.test t118 (ret (.bool false) σ) (A.rd (Qb .add false [(h0 v108),jv 1] σ) fun t119=>ag107 [t119] σ)) (
 A.rd (Qb .add false [(h0 v82),jv 1] σ) fun t120=>ag81 [t120] σ)) [jv 0] σ)) (ret (.bool true) σ)) [jv 0] σ))))
 | _=>A.stop
abbrev n25:List (Option (List Nat)):=[none,none,none,none,none,some [7],none,none,none,none,some [11],none,none,none]
theorem g25_ok:GOk prog GL0 25 3 g25:=gok3 (l:=n25) (by kernel_rfl) fun _ _ _ _ _ _ _=>by kernel_rfl
def g27:GFun:=fun A xs σ ret=>match xs with
 | [x0,x1,x2]=>
 A.wr (Zo [x0] σ) σ fun t0 σ=>A.wr (Zo [x1] σ) σ fun t1 σ=>A.wr (Yf zq0 [] σ) σ fun t2 σ=>A.call (.call 56) [t0,t1] σ fun t3 σ=>A.rd (XP .ptr false false [t3,.nilp] σ) fun t4=>
 A.test t4 (A.rd (Xg zq0 [] [] σ) fun t5=>A.wr (Zc 23 [t2,t5] σ) σ fun _ σ=>A.opt (cellV true 23 t2 σ) fun r6=>ret (.tup [r6,.nils]) σ) (A.rd (Qg [x2] σ) fun t7=>
 A.loop (fun ag8 v9 σ=>A.rd (Qb .lss false [(h0 v9),t7] σ) fun t10=>A.test t10 (joinK (fun k11=>A.rd (Xd 1 [x2,(h0 v9)] σ) fun t13=>A.rd (Qa [t13] σ) fun t14=>
 A.wr (Yf [jv 0] [] σ) σ fun t15 σ=>A.wr (Zc 1 [t15,t14] σ) σ fun _ σ=>A.pu (Xb [t3] σ) fun t16=>A.pu (Ya 1 [t16] σ) fun t17=>A.dr (Ze true 23 [t17] σ) σ fun t18 l19 σ=>
 A.dr (Qa [t15] σ) σ fun t20 l21 σ=>A.dcall (.call 71) [t18,t20] σ fun t22 l23 σ=>A.pu (Qe 0 [t22] σ) fun t24=>A.pu (Qe 1 [t22] σ) fun t25=>
 A.pu (Qe 2 [t22] σ) fun t26=>A.gd (Xk [[],[0],[0,1],[0,1,2],[],[0,1,2,3,4],[0,1,2,3,4,5],[0,1,2,3,4,5,6],[0,1,2,3,4,5,6],[0,1,2,3,4,5,6],[0,1,2,3,4,5,6,7],[0,1,2,3,4,5,6,7,8,10],[0,1,2,3,4,5,6,7,8,9,10,11]] [([],[]),([],[]),([],[]),l19,l21,l23,([],[]),([],[]),([],[]),([],[]),([],[]),([],[]),([],[])]) <|
 A.rd (Yp .not [t26] σ) fun t27=>A.test t27 (k11 [(h1 v9)] σ) (A.rd (Xb [t3] σ) fun t28=>A.rd (Ya 1 [t28] σ) fun t29=>A.rd (Ya 7 [t29] σ) fun t30=>
 A.rd (Yi 2 8 [t30,t24] σ) fun t31=>A.rd (Xb [t31] σ) fun t32=>A.rd (Ya 6 [t32] σ) fun t33=>A.rd (Qa [t33] σ) fun t34=>A.rd (Xd 4 [t34,t25] σ) fun t35=>
 A.rd (Ya 1 [t35] σ) fun t36=>A.rd (Qa [t36] σ) fun t37=>A.rd (Xb [t31] σ) fun t38=>A.rd (Ya 6 [t38] σ) fun t39=>A.rd (Qa [t39] σ) fun t40=>
 A.rd (Qb .add false [t25,jv 1] σ) fun t41=>A.call (.call 72) [t40,t25,t41] σ fun t42 σ=>A.rd (Xb [t31] σ) fun t43=>A.rd (Ya 6 [t43] σ) fun t44=>
 A.wr (Zc 1 [t44,t42] σ) σ fun _ σ=>A.rd (Xb [t31] σ) fun t45=>A.rd (Ya 5 [t45] σ) fun t46=>A.rd (Qa [t46] σ) fun t47=>A.wr (Yl 1 1 [jv 0] [(0,1)] [t37] σ) σ fun t48 σ=>
 A.wr (Yk 1 8 [t47,t48] σ) σ fun t49 σ=>A.rd (Xb [t31] σ) fun t50=>A.rd (Ya 5 [t50] σ) fun t51=>A.wr (Zc 1 [t51,t49] σ) σ fun _ σ=>
 A.rd (Xb [t3] σ) fun t52=>A.rd (Ya 1 [t52] σ) fun t53=>A.rd (Ya 5 [t53] σ) fun t54=>A.rd (Qa [t54] σ) fun t55=>A.rd (Zp (.func 74) 0 [t15] σ) fun t56=>
 A.call (.call 73) [t55,t56] σ fun t57 σ=>A.rd (Xb [t3] σ) fun t58=>A.rd (Ya 1 [t58] σ) fun t59=>A.rd (Ya 5 [t59] σ) fun t60=>A.wr (Zc 1 [t60,t57] σ) σ fun _ σ=>
 A.rd (Qa [t15] σ) fun t61=>A.rd (Xg zq1 [(0,1),(1,1),(2,1),(3,1)] [.int .i8 13,t24,t37,t61] σ) fun t62=>A.wr (Yl 7 1 zq1 [(0,7)] [t62] σ) σ fun t63 σ=>
 A.wr (Yk 7 72 [(h1 v9),t63] σ) σ fun t64 σ=>k11 [t64] σ)) (fun v12 σ=>A.rd (Qb .add false [(h0 v9),jv 1] σ) fun t65=>ag8 [t65,(h0 v12)] σ)) (A.rd (Xb [t3] σ) fun t66=>
 A.rd (Ya 1 [t66] σ) fun t67=>A.rd (Ze true 23 [t67] σ) fun t68=>A.wr (Zc 23 [t2,t68] σ) σ fun _ σ=>A.opt (cellV true 23 t2 σ) fun r69=>ret (.tup [r69,(h1 v9)]) σ)) [jv 0,.nils] σ)
 | _=>A.stop
abbrev n27:List (Option (List Nat)):=[none,none,some [23,9],none,some [9],none]
theorem g27_ok:GOk prog GL0 27 3 g27:=gok3 (l:=n27) (by kernel_rfl) fun _ _ _ _ _ _ _=>by kernel_rfl
end Go.Ah.Tz
end
section
namespace Go.Ah.Tz
open Go.Proofs.Tryz (prog)
set_option maxRecDepth 100000
def g52:GFun:=fun A xs σ ret=>match xs with
 | [x0]=>
 A.rd (Qg [x0] σ) fun t0=>A.loop (fun ag1 v2 σ=>A.rd (Qb .lss false [(h0 v2),t0] σ) fun t3=>A.test t3 (A.rd (Xd 12 [x0,(h0 v2)] σ) fun t4=>A.rd (Ze true 12 [t4] σ) fun t5=>
 A.call (.call 110) [t5] σ fun t6 σ=>A.rd (Qb .add false [(h1 v2),t6] σ) fun t7=>A.rd (Qb .gtr false [t7,jv 3000] σ) fun t8=>A.gof t8 (Zj [x0] σ) fun t9=>
 A.gof t8 (Zj [(h0 v2)] σ) fun t10=>A.gof t8 (Xd 12 [t9,t10] σ) fun t11=>A.gof t8 (Ya 0 [t11] σ) fun t12=>A.gof t8 (Qa [t12] σ) fun t13=>
 A.gof t8 (Qq [t13] σ) fun t14=>A.gof t8 (Qb .gtr false [t14,jv 2000] σ) fun t15=>A.rd (Qc [t8,.bool true,t15] σ) fun t16=>A.gof t16 (Zj [(h0 v2)] σ) fun t17=>
 A.gof t16 (Qb .gtr false [t17,jv 60] σ) fun t18=>A.gof t16 (Zj [t18] σ) fun t19=>A.got t19 (Zj [x0] σ) fun t20=>A.got t19 (Qg [t20] σ) fun t21=>
 A.got t19 (Qb .leq false [t21,jv 240] σ) fun t22=>A.gof t16 (Qc [t19,t22,.bool false] σ) fun t23=>A.rd (Qc [t16,.bool true,t23] σ) fun t24=>
 A.test t24 (ret (.bool true) σ) (A.rd (Qb .add false [(h0 v2),jv 1] σ) fun t25=>ag1 [t25,t7] σ)) (A.rd (Qg [x0] σ) fun t26=>A.rd (Qb .gtr false [t26,jv 250] σ) fun t27=>
 ret t27 σ)) [jv 0,jv 0] σ
 | _=>A.stop
abbrev n52:List (Option (List Nat)):=[none,some [7,3],none,none,none]
theorem g52_ok:GOk prog GL0 52 1 g52:=gok1 (l:=n52) (by kernel_rfl) fun _ _ _ _ _=>by kernel_rfl
def g53:GFun:=fun A xs σ ret=>match xs with
 | []=>
 A.wr (Yf [.nils,.nils] [] σ) σ fun t0 σ=>A.wr (Yf zq0 [] σ) σ fun t1 σ=>A.call (.call 78) [(.str [99,97,114,100,32,73,109,112,32,117,110,105,116,32,49,32,50,47,50,32,123,32,115,104,105,101,108,100,32,49,59,32,125,32,99,97,114,100,32,66,97,114,100,32,117,110,105,116,32,50,32,49,47,49,32,123,32,97,117,114,97,32,49,47,48,59,32,125])] σ fun t2 σ=>
 A.rd (Qe 0 [t2] σ) fun t3=>A.rd (Qe 1 [t2] σ) fun t4=>A.wr (Yf [.nils,.nils] [] σ) σ fun t5 σ=>A.wr (Yf [jv 0,jv 0] [] σ) σ fun t6 σ=>
 A.wr (Zc 2 [t5,t3] σ) σ fun _ σ=>A.wr (Zc 2 [t6,t4] σ) σ fun _ σ=>A.rd (Xg zq0 [(0,1),(6,1)] [jv 1,jv 9] σ) fun t7=>A.wr (Yf zq0 [] σ) σ fun t8 σ=>
 A.wr (Zc 23 [t8,t7] σ) σ fun _ σ=>A.rd (Xg zq4 [(0,1)] [jv 1] σ) fun t9=>A.rd (Xg zq4 [(0,1),(1,1)] [jv 2,jv 1] σ) fun t10=>A.wr (Yl 4 2 [jv 0,jv 0,jv 0,.bool false,jv 0,jv 0,jv 0,.bool false] [(0,4),(4,4)] [t9,t10] σ) σ fun t11 σ=>
 A.rd (Xg zq3 [(0,1),(6,1)] [jv 20,t11] σ) fun t12=>A.rd (Ya 7 [t8] σ) fun t13=>A.rd (Yi 2 8 [t13,jv 0] σ) fun t14=>A.wr (Zc 8 [t14,t12] σ) σ fun _ σ=>
 A.wr (Yl 1 2 [jv 0,jv 0] [(0,1),(1,1)] [jv 1,jv 0] σ) σ fun t15 σ=>A.rd (Xg zq3 [(0,1),(3,1)] [jv 20,t15] σ) fun t16=>A.rd (Ya 7 [t8] σ) fun t17=>
 A.rd (Yi 2 8 [t17,jv 1] σ) fun t18=>A.wr (Zc 8 [t18,t16] σ) σ fun _ σ=>A.dr (Ze true 2 [t5] σ) σ fun t19 l20 σ=>A.dr (Ze true 23 [t8] σ) σ fun t21 l22 σ=>
 A.dr (Zc 2 [t0,t19] σ) σ fun _ l23 σ=>A.dr (Zc 23 [t1,t21] σ) σ fun _ l24 σ=>A.gd (Xk [[],[],[0],[0,1,2]] [l20,l22,l23,l24]) <| A.opt (cellV true 2 t0 σ) fun r25=>
 A.opt (cellV true 23 t1 σ) fun r26=>ret (.tup [r25,r26]) σ
 | _=>A.stop
abbrev n53:List (Option (List Nat)):=[]
theorem g53_ok:GOk prog GL0 53 0 g53:=gok0 (l:=n53) (by kernel_rfl) fun _ _ _ _=>by kernel_rfl
def g54:GFun:=fun A xs σ ret=>match xs with
 | [x0,x1,x2]=>
 A.wr (Zo [x0] σ) σ fun t0 σ=>A.wr (Zo [x1] σ) σ fun t1 σ=>A.call (.call 56) [t0,t1] σ fun t2 σ=>A.rd (XP .ptr false false [t2,.nilp] σ) fun t3=>
 A.test t3 (ret (.tup zq6) σ) (A.rd (Ze true 23 [t1] σ) fun t4=>A.call (.call 71) [t4,x2] σ fun t5 σ=>A.rd (Qe 0 [t5] σ) fun t6=>A.rd (Qe 1 [t5] σ) fun t7=>
 A.rd (Qe 2 [t5] σ) fun t8=>A.rd (Yp .not [t8] σ) fun t9=>A.test t9 (ret (.tup zq6) σ) (A.call (.call 75) [t2,t6,t7] σ fun t10 σ=>A.rd (Qe 0 [t10] σ) fun t11=>
 A.rd (Qe 1 [t10] σ) fun t12=>ret (.tup [t11,t12,.bool true]) σ))
 | _=>A.stop
abbrev n54:List (Option (List Nat)):=[none,none]
theorem g54_ok:GOk prog GL0 54 3 g54:=gok3 (l:=n54) (by kernel_rfl) fun _ _ _ _ _ _ _=>by kernel_rfl
def g55:GFun:=fun A xs σ ret=>match xs with
 | [x0,x1]=>
 A.wr (Zo [x0] σ) σ fun t0 σ=>A.wr (Zo [x1] σ) σ fun t1 σ=>A.call (.call 111) [t0,t1,.bool false] σ fun t2 σ=>A.rd (Yp .not [t2] σ) fun t3=>A.test t3 (
 ret (jv 170) σ) (ret (jv 0) σ)
 | _=>A.stop
abbrev n55:List (Option (List Nat)):=[none]
theorem g55_ok:GOk prog GL0 55 2 g55:=gok2 (l:=n55) (by kernel_rfl) fun _ _ _ _ _ _=>by kernel_rfl
def g56:GFun:=fun A xs σ ret=>match xs with
 | [x0,x1]=>
 A.call (.call 111) [x0,x1,.bool true] σ fun t0 σ=>A.rd (Yp .not [t0] σ) fun t1=>A.test t1 (ret .nilp σ) (A.rd (Xb [x1] σ) fun t2=>A.rd (Ze true 23 [t2] σ) fun t3=>
 A.call (.call 59) [t3] σ fun t4 σ=>A.rd (Xg [.nilp,jv 0,jv 0,.int .i8 0,.bool false,.int .i8 0,.nils,jv 0,jv 0,jv 0,jv 0,.nils,.nils,.nils,.nils,.nils,jv 0,jv 0,jv 0,.nils,.nils,.nils,.nils,.nils] [(0,1),(1,23)] [x0,t4] σ) fun t5=>
 A.wr (Zo [t5] σ) σ fun t6 σ=>ret t6 σ)
 | _=>A.stop
abbrev n56:List (Option (List Nat)):=[none]
theorem g56_ok:GOk prog GL0 56 2 g56:=gok2 (l:=n56) (by kernel_rfl) fun _ _ _ _ _ _=>by kernel_rfl
def g57:GFun:=fun A xs σ ret=>match xs with
 | [x0]=>
 A.rd (Qb .geq false [x0,jv (-1000000)] σ) fun t0=>A.got t0 (Zj [x0] σ) fun t1=>A.got t0 (Qb .leq false [t1,jv 1000000] σ) fun t2=>A.rd (Qc [t0,t2,.bool false] σ) fun t3=>
 ret t3 σ
 | _=>A.stop
abbrev n57:List (Option (List Nat)):=[]
theorem g57_ok:GOk prog GL0 57 1 g57:=gok1 (l:=n57) (by kernel_rfl) fun _ _ _ _ _=>by kernel_rfl
def g58:GFun:=fun A xs σ ret=>match xs with
 | [x0,x1]=>
 A.rd (Xb [x0] σ) fun t0=>A.rd (Qa [t0] σ) fun t1=>A.rd (Xd 1 [t1,jv 0] σ) fun t2=>A.rd (Qa [t2] σ) fun t3=>A.rd (Xb [x0] σ) fun t4=>
 A.rd (Qa [t4] σ) fun t5=>A.rd (Q9 1 [t5,jv 1] σ) fun t6=>A.rd (Xb [x0] σ) fun t7=>A.wr (Zc 1 [t7,t6] σ) σ fun _ σ=>A.rd (Xb [x1] σ) fun t8=>
 A.rd (Qa [t8] σ) fun t9=>A.wr (Yl 1 1 [jv 0] [(0,1)] [t3] σ) σ fun t10 σ=>A.wr (Yk 1 8 [t9,t10] σ) σ fun t11 σ=>A.rd (Xb [x1] σ) fun t12=>
 A.wr (Zc 1 [t12,t11] σ) σ fun _ σ=>ret t3 σ
 | _=>A.stop
abbrev n58:List (Option (List Nat)):=[]
theorem g58_ok:GOk prog GL0 58 2 g58:=gok2 (l:=n58) (by kernel_rfl) fun _ _ _ _ _ _=>by kernel_rfl
def g59:GFun:=fun A xs σ ret=>match xs with
 | [x0]=>
 A.wr (Zo [x0] σ) σ fun t0 σ=>A.wr (Yf zq0 [] σ) σ fun t1 σ=>A.rd (Ya 5 [t0] σ) fun t2=>A.rd (Qa [t2] σ) fun t3=>A.call (.call 96) [t3] σ fun t4 σ=>
 A.rd (Ya 5 [t0] σ) fun t5=>A.wr (Zc 1 [t5,t4] σ) σ fun _ σ=>A.loop (fun ag6 v7 σ=>A.rd (Qb .lss false [(h0 v7),jv 2] σ) fun t8=>A.test t8 (
 A.rd (Ya 7 [t0] σ) fun t9=>A.rd (Yi 2 8 [t9,(h0 v7)] σ) fun t10=>A.pu (Xb [t10] σ) fun t11=>A.pu (Ya 3 [t11] σ) fun t12=>
 A.dr (Qa [t12] σ) σ fun t13 l14 σ=>A.dcall (.call 96) [t13] σ fun t15 l16 σ=>A.pu (Xb [t10] σ) fun t17=>A.pu (Ya 4 [t17] σ) fun t18=>A.dr (Qa [t18] σ) σ fun t19 l20 σ=>
 A.dcall (.call 96) [t19] σ fun t21 l22 σ=>A.pu (Xb [t10] σ) fun t23=>A.pu (Ya 5 [t23] σ) fun t24=>A.dr (Qa [t24] σ) σ fun t25 l26 σ=>A.dcall (.call 96) [t25] σ fun t27 l28 σ=>
 A.pu (Xb [t10] σ) fun t29=>A.pu (Ya 7 [t29] σ) fun t30=>A.dr (Qa [t30] σ) σ fun t31 l32 σ=>A.dcall (.call 96) [t31] σ fun t33 l34 σ=>A.pu (Xb [t10] σ) fun t35=>
 A.pu (Ya 6 [t35] σ) fun t36=>A.dr (Qa [t36] σ) σ fun t37 l38 σ=>A.dcall (.call 112) [t37] σ fun t39 l40 σ=>A.pu (Xb [t10] σ) fun t41=>
 A.pu (Ya 3 [t41] σ) fun t42=>A.dr (Zc 1 [t42,t15] σ) σ fun _ l43 σ=>A.pu (Xb [t10] σ) fun t44=>A.pu (Ya 4 [t44] σ) fun t45=>
 A.dr (Zc 1 [t45,t21] σ) σ fun _ l46 σ=>A.pu (Xb [t10] σ) fun t47=>A.pu (Ya 5 [t47] σ) fun t48=>A.dr (Zc 1 [t48,t27] σ) σ fun _ l49 σ=>
 A.pu (Xb [t10] σ) fun t50=>A.pu (Ya 7 [t50] σ) fun t51=>A.dr (Zc 1 [t51,t33] σ) σ fun _ l52 σ=>A.pu (Xb [t10] σ) fun t53=>A.pu (Ya 6 [t53] σ) fun t54=>
 A.dr (Zc 1 [t54,t39] σ) σ fun _ l55 σ=>A.gd (Xk [[],[],[],[],[],[],[5],[5,6],[5,6,7],[5,6,7,8],[],[10],[10,11],[10,11,12],[5,6,7,8,9,10,11,12,13],[],[15],[15,16],[15,16,17],[5,6,7,8,9,10,11,12,13,14,15,16,17,18],[],[20],[20,21],[20,21,22],[5,6,7,8,9,10,11,12,13,14,15,16,17,18,19,20,21,22,23],[],[25],[25,26],[25,26,27],[5,6,7,8,9,10,11,12,13,14,15,16,17,18,19,20,21,22,23,24,25,26,27,28],[0,5,6,7,8,9,10,11,12,13,14,15,16,17,18,19,20,21,22,23,24,25,26,27,28,29],[0,5,6,7,8,9,10,11,12,13,14,15,16,17,18,19,20,21,22,23,24,25,26,27,28,29,30],[0,5,6,7,8,9,10,11,12,13,14,15,16,17,18,19,20,21,22,23,24,25,26,27,28,29,30,31],[0,1,5,6,7,8,9,10,11,12,13,14,15,16,17,18,19,20,21,22,23,24,25,26,27,28,29,30,31,32],[0,1,5,6,7,8,9,10,11,12,13,14,15,16,17,18,19,20,21,22,23,24,25,26,27,28,29,30,31,32,33],[0,1,5,6,7,8,9,10,11,12,13,14,15,16,17,18,19,20,21,22,23,24,25,26,27,28,29,30,31,32,33,34],[0,1,2,5,6,7,8,9,10,11,12,13,14,15,16,17,18,19,20,21,22,23,24,25,26,27,28,29,30,31,32,33,34,35],[0,1,2,5,6,7,8,9,10,11,12,13,14,15,16,17,18,19,20,21,22,23,24,25,26,27,28,29,30,31,32,33,34,35,36],[0,1,2,5,6,7,8,9,10,11,12,13,14,15,16,17,18,19,20,21,22,23,24,25,26,27,28,29,30,31,32,33,34,35,36,37],[0,1,2,3,5,6,7,8,9,10,11,12,13,14,15,16,17,18,19,20,21,22,23,24,25,26,27,28,29,30,31,32,33,34,35,36,37,38],[0,1,2,3,5,6,7,8,9,10,11,12,13,14,15,16,17,18,19,20,21,22,23,24,25,26,27,28,29,30,31,32,33,34,35,36,37,38,39],[0,1,2,3,5,6,7,8,9,10,11,12,13,14,15,16,17,18,19,20,21,22,23,24,25,26,27,28,29,30,31,32,33,34,35,36,37,38,39,40],[0,1,2,3,4,5,6,7,8,9,10,11,12,13,14,15,16,17,18,19,20,21,22,23,24,25,26,27,28,29,30,31,32,33,34,35,36,37,38,39,40,41],[0,1,2,3,4,5,6,7,8,9,10,11,12,13,14,15,16,17,18,19,20,21,22,23,24,25,26,27,28,29,30,31,32,33,34,35,36,37,38,39,40,41,42],[0,1,2,3,4,5,6,7,8,9,10,11,12,13,14,15,16,17,18,19,20,21,22,23,24,25,26,27,28,29,30,31,32,33,34,35,36,37,38,39,40,41,42,43]] [([],[]),([],[]),([],[]),([],[]),([],[]),([],[]),([],[]),([],[]),l14,l16,([],[]),([],[]),([],[]),l20,l22,([],[]),([],[]),([],[]),l26,l28,([],[]),([],[]),([],[]),l32,l34,([],[]),([],[]),([],[]),l38,l40,([],[]),([],[]),l43,([],[]),([],[]),l46,([],[]),([],[]),l49,([],[]),([],[]),l52,([],[]),([],[]),l55]) <|
 A.rd (Qb .add false [(h0 v7),jv 1] σ) fun t56=>ag6 [t56] σ) (A.rd (Ze true 23 [t0] σ) fun t57=>A.wr (Zc 23 [t1,t57] σ) σ fun _ σ=>A.opt (cellV true 23 t1 σ) fun r58=>
 ret r58 σ)) [jv 0] σ
 | _=>A.stop
abbrev n59:List (Option (List Nat)):=[none,some [9],none,none]
theorem g59_ok:GOk prog GL0 59 1 g59:=gok1 (l:=n59) (by kernel_rfl) fun _ _ _ _ _=>by kernel_rfl
def g60:GFun:=fun A xs σ ret=>match xs with
 | [x0]=>
 A.loop (fun ag0 v1 σ=>A.rd (Qg [x0] σ) fun t2=>A.rd (Qb .lss false [(h0 v1),t2] σ) fun t3=>A.test t3 (A.rd (Xd 1 [x0,(h0 v1)] σ) fun t4=>A.rd (Qa [t4] σ) fun t5=>
 A.wr (Yl 1 1 [jv 0] [(0,1)] [t5] σ) σ fun t6 σ=>A.wr (Yk 1 8 [(h1 v1),t6] σ) σ fun t7 σ=>A.rd (Qb .add false [(h0 v1),jv 1] σ) fun t8=>
 ag0 [t8,t7] σ) (ret (h1 v1) σ)) [jv 0,.nils] σ
 | _=>A.stop
abbrev n60:List (Option (List Nat)):=[none,some [4,3],none,none]
theorem g60_ok:GOk prog GL0 60 1 g60:=gok1 (l:=n60) (by kernel_rfl) fun _ _ _ _ _=>by kernel_rfl
def g61:GFun:=fun A xs σ ret=>match xs with
 | [x0]=>
 A.loop (fun ag0 v1 σ=>A.rd (Qg [x0] σ) fun t2=>A.rd (Qb .lss false [(h0 v1),t2] σ) fun t3=>A.test t3 (A.rd (Xd 4 [x0,(h0 v1)] σ) fun t4=>A.rd (Ze true 4 [t4] σ) fun t5=>
 A.wr (Yl 4 1 zq4 [(0,4)] [t5] σ) σ fun t6 σ=>A.wr (Yk 4 32 [(h1 v1),t6] σ) σ fun t7 σ=>A.rd (Qb .add false [(h0 v1),jv 1] σ) fun t8=>ag0 [t8,t7] σ) (
 ret (h1 v1) σ)) [jv 0,.nils] σ
 | _=>A.stop
abbrev n61:List (Option (List Nat)):=[none,some [4,3],none,none]
theorem g61_ok:GOk prog GL0 61 1 g61:=gok1 (l:=n61) (by kernel_rfl) fun _ _ _ _ _=>by kernel_rfl
def g62:GFun:=fun A xs σ ret=>match xs with
 | [x0,x1]=>
 A.rd (Qg [x0] σ) fun t0=>A.rd (Qg [x1] σ) fun t1=>A.rd (Qb .neq false [t0,t1] σ) fun t2=>A.test t2 (ret (.bool false) σ) (A.loop (fun ag3 v4 σ=>
 A.rd (Qg [x0] σ) fun t5=>A.rd (Qb .lss false [(h0 v4),t5] σ) fun t6=>A.test t6 (A.rd (Xd 1 [x0,(h0 v4)] σ) fun t7=>A.rd (Qa [t7] σ) fun t8=>
 A.rd (Xd 1 [x1,(h0 v4)] σ) fun t9=>A.rd (Qa [t9] σ) fun t10=>A.rd (Qb .neq false [t8,t10] σ) fun t11=>A.test t11 (ret (.bool false) σ) (A.rd (Qb .add false [(h0 v4),jv 1] σ) fun t12=>
 ag3 [t12] σ)) (ret (.bool true) σ)) [jv 0] σ)
 | _=>A.stop
abbrev n62:List (Option (List Nat)):=[none,none,some [5],none,none,none]
theorem g62_ok:GOk prog GL0 62 2 g62:=gok2 (l:=n62) (by kernel_rfl) fun _ _ _ _ _ _=>by kernel_rfl
def g63:GFun:=fun A xs σ ret=>match xs with
 | [x0,x1]=>
 A.rd (Qg [x0] σ) fun t0=>A.rd (Qg [x1] σ) fun t1=>A.rd (Qb .neq false [t0,t1] σ) fun t2=>A.test t2 (ret (.bool false) σ) (A.loop (fun ag3 v4 σ=>
 A.rd (Qg [x0] σ) fun t5=>A.rd (Qb .lss false [(h0 v4),t5] σ) fun t6=>A.test t6 (A.rd (Xd 4 [x0,(h0 v4)] σ) fun t7=>A.rd (Ze true 4 [t7] σ) fun t8=>
 A.rd (Xd 4 [x1,(h0 v4)] σ) fun t9=>A.rd (Ze true 4 [t9] σ) fun t10=>A.rd (QbJ true [false,false,false,true] [t8,t10] σ) fun t11=>A.test t11 (
 ret (.bool false) σ) (A.rd (Qb .add false [(h0 v4),jv 1] σ) fun t12=>ag3 [t12] σ)) (ret (.bool true) σ)) [jv 0] σ)
 | _=>A.stop
abbrev n63:List (Option (List Nat)):=[none,none,some [5],none,none,none]
theorem g63_ok:GOk prog GL0 63 2 g63:=gok2 (l:=n63) (by kernel_rfl) fun _ _ _ _ _ _=>by kernel_rfl
def g64:GFun:=fun A xs σ ret=>match xs with
 | [x0,x1,x2,x3,x4,x5,x6]=>
 A.wr (Yf zq0 [] σ) σ fun t0 σ=>A.wr (Yf zq1 [] σ) σ fun t1 σ=>A.call (.call 56) [x0,x1] σ fun t2 σ=>A.rd (XP .ptr false false [t2,.nilp] σ) fun t3=>
 A.test t3 (A.rd (Xg zq0 [] [] σ) fun t4=>A.rd (Xg zq1 [] [] σ) fun t5=>A.wr (Zc 23 [t0,t4] σ) σ fun _ σ=>A.wr (Zc 7 [t1,t5] σ) σ fun _ σ=>
 A.opt (cellV true 23 t0 σ) fun r6=>A.opt (cellV true 7 t1 σ) fun r7=>ret (.tup [r6,r7,jv 170]) σ) (A.rd (QaL [x5,jv 0] σ) fun t8=>A.rd (ZX [t8,jv 4000000] σ) fun t9=>
 A.rd (Qb .neq false [x3,jv 0] σ) fun t10=>joinK (fun k11=>A.test t10 (A.rd (Xb [x1] σ) fun t13=>A.rd (Ze true 23 [t13] σ) fun t14=>A.call (.call 71) [t14,x3] σ fun t15 σ=>
 A.rd (Qe 0 [t15] σ) fun t16=>A.rd (Qe 1 [t15] σ) fun t17=>A.rd (Qe 2 [t15] σ) fun t18=>A.rd (Yp .not [t18] σ) fun t19=>A.gof t19 (Zj [x3] σ) fun t20=>
 A.gof t19 (Qb .lss false [t20,jv 0] σ) fun t21=>A.rd (Qc [t19,.bool true,t21] σ) fun t22=>A.test t22 (A.rd (Xg zq0 [] [] σ) fun t23=>A.rd (Xg zq1 [] [] σ) fun t24=>
 A.wr (Zc 23 [t0,t23] σ) σ fun _ σ=>A.wr (Zc 7 [t1,t24] σ) σ fun _ σ=>A.opt (cellV true 23 t0 σ) fun r25=>A.opt (cellV true 7 t1 σ) fun r26=>ret (.tup [r25,r26,jv 4]) σ) (
 A.rd (Xb [t2] σ) fun t27=>A.rd (Ya 1 [t27] σ) fun t28=>A.rd (Ya 7 [t28] σ) fun t29=>A.rd (Yi 2 8 [t29,t16] σ) fun t30=>A.rd (Ya 6 [t30] σ) fun t31=>
 A.rd (Qa [t31] σ) fun t32=>A.rd (Xd 4 [t32,t17] σ) fun t33=>k11 [t16,t33] σ)) (k11 [x4,.nilp] σ)) (fun v12 σ=>A.rd (Qb .lss false [(h0 v12),jv 0] σ) fun t34=>
 A.gof t34 (Zj [(h0 v12)] σ) fun t35=>A.gof t34 (Qb .gtr false [t35,jv 1] σ) fun t36=>A.rd (Qc [t34,.bool true,t36] σ) fun t37=>A.test t37 (A.rd (Xg zq0 [] [] σ) fun t38=>
 A.rd (Xg zq1 [] [] σ) fun t39=>A.wr (Zc 23 [t0,t38] σ) σ fun _ σ=>A.wr (Zc 7 [t1,t39] σ) σ fun _ σ=>A.opt (cellV true 23 t0 σ) fun r40=>A.opt (cellV true 7 t1 σ) fun r41=>
 ret (.tup [r40,r41,jv 2]) σ) (A.rd (Xb [t2] σ) fun t42=>A.rd (Ya 1 [t42] σ) fun t43=>A.rd (Ya 7 [t43] σ) fun t44=>A.rd (Yi 2 8 [t44,(h0 v12)] σ) fun t45=>
 A.dcall .callv [x6,t2] σ fun t46 l47 σ=>A.pu (Xb [t45] σ) fun t48=>A.pu (Ya 0 [t48] σ) fun t49=>A.dr (Qa [t49] σ) σ fun t50 l51 σ=>A.dcall .callv [t46,(h1 v12),t50,t9] σ fun t52 l53 σ=>
 A.pu (Qe 0 [t52] σ) fun t54=>A.pu (Qe 1 [t52] σ) fun t55=>A.gd (Xk [[],[],[0,1],[],[],[4],[4,5],[4,5,6],[],[0,1,2,3,4,5,6,7,8],[0,1,2,3,4,5,6,7,8,9],[0,1,2,3,4,5,6,7,8,9,10],[0,1,2,3,4,5,6,7,8,9,10],[0,1,2,3,4,5,6,7,8,9,10,11],[0,1,2,3,4,5,6,7,8,9,10,11,12,13]] [([],[]),([],[]),l47,([],[]),([],[]),([],[]),([],[]),l51,([],[]),l53,([],[]),([],[]),([],[]),([],[]),([],[])]) <|
 A.call (.call 57) [t54] σ fun t56 σ=>A.rd (Yp .not [t56] σ) fun t57=>A.test t57 (A.rd (Xg zq0 [] [] σ) fun t58=>A.rd (Xg zq1 [] [] σ) fun t59=>A.wr (Zc 23 [t0,t58] σ) σ fun _ σ=>
 A.wr (Zc 7 [t1,t59] σ) σ fun _ σ=>A.opt (cellV true 23 t0 σ) fun r60=>A.opt (cellV true 7 t1 σ) fun r61=>ret (.tup [r60,r61,jv 171]) σ) (A.rd (XP .ptr true false [(h1 v12),.nilp] σ) fun t62=>
 joinK (fun k63=>A.test t62 (A.rd (Xb [(h1 v12)] σ) fun t65=>A.rd (Ya 2 [t65] σ) fun t66=>A.wr (Zc 1 [t66,t54] σ) σ fun _ σ=>k63 [] σ) (
 A.rd (Xb [t45] σ) fun t67=>A.rd (Ya 0 [t67] σ) fun t68=>A.wr (Zc 1 [t68,t54] σ) σ fun _ σ=>k63 [] σ)) (fun v64 σ=>A.rd (Xb [t2] σ) fun t69=>
 A.rd (Ya 1 [t69] σ) fun t70=>A.rd (Ze true 23 [t70] σ) fun t71=>A.rd (Xg zq1 [(0,1),(1,1),(3,1),(5,1)] [x2,(h0 v12),x3,t55] σ) fun t72=>
 A.wr (Zc 23 [t0,t71] σ) σ fun _ σ=>A.wr (Zc 7 [t1,t72] σ) σ fun _ σ=>A.opt (cellV true 23 t0 σ) fun r73=>A.opt (cellV true 7 t1 σ) fun r74=>ret (.tup [r73,r74,jv 0]) σ)))))
 | _=>A.stop
abbrev n64:List (Option (List Nat)):=[none,some [4,18],none,none,none,some []]
theorem g64_ok:GOk prog GL0 64 7 g64:=gok7 (l:=n64) (by kernel_rfl) fun _ _ _ _ _ _ _ _ _ _ _=>by kernel_rfl
def g65:GFun:=fun A xs σ ret=>match xs with
 | [x0]=>
 A.rd (Zp (.func 66) 1 [x0] σ) fun t0=>ret t0 σ
 | _=>A.stop
abbrev n65:List (Option (List Nat)):=[]
theorem g65_ok:GOk prog GL0 65 1 g65:=gok1 (l:=n65) (by kernel_rfl) fun _ _ _ _ _=>by kernel_rfl
def g66:GFun:=fun A xs σ ret=>match xs with
 | [x0,x1,x2,x3]=>
 A.rd (XP .ptr true false [x1,.nilp] σ) fun t0=>A.test t0 (A.rd (Xb [x0] σ) fun t1=>A.rd (Ya 0 [t1] σ) fun t2=>A.rd (Qa [t2] σ) fun t3=>
 A.rd (Xb [t3] σ) fun t4=>A.rd (Ya 0 [t4] σ) fun t5=>A.rd (Qa [t5] σ) fun t6=>A.rd (Xb [x1] σ) fun t7=>A.rd (Ya 1 [t7] σ) fun t8=>
 A.rd (Qa [t8] σ) fun t9=>A.rd (Xd 12 [t6,t9] σ) fun t10=>A.rd (Ya 5 [t10] σ) fun t11=>A.rd (Qa [t11] σ) fun t12=>A.rd (Qb .sub false [x3,t12] σ) fun t13=>
 A.rd (QaL [t13,jv 0] σ) fun t14=>A.rd (Xb [x1] σ) fun t15=>A.rd (Ya 2 [t15] σ) fun t16=>A.rd (Qa [t16] σ) fun t17=>A.rd (Qb .add false [t17,t14] σ) fun t18=>
 ret (.tup [t18,t14]) σ) (A.rd (Qb .sub false [x2,x3] σ) fun t19=>ret (.tup [t19,x3]) σ)
 | _=>A.stop
abbrev n66:List (Option (List Nat)):=[none]
theorem g66_ok:GOk prog GL0 66 4 g66:=gok4 (l:=n66) (by kernel_rfl) fun _ _ _ _ _ _ _ _=>by kernel_rfl
def g67:GFun:=fun A xs σ ret=>match xs with
 | [x0]=>
 A.wr (Zo [x0] σ) σ fun t0 σ=>A.wr (Yf [jv 0,jv 0] [] σ) σ fun t1 σ=>A.rd (Ya 0 [t0] σ) fun t2=>A.rd (Qa [t2] σ) fun t3=>A.call (.call 113) [t3] σ fun t4 σ=>
 A.wr (Yf [jv 0,jv 0] [] σ) σ fun t5 σ=>A.wr (Zc 2 [t5,t4] σ) σ fun _ σ=>A.rd (Ya 0 [t5] σ) fun t6=>A.rd (Qa [t6] σ) fun t7=>A.rd (Qb .neq false [t7,jv 0] σ) fun t8=>
 A.test t8 (A.rd (Ze true 2 [t5] σ) fun t9=>A.wr (Zc 2 [t1,t9] σ) σ fun _ σ=>A.opt (cellV true 2 t1 σ) fun r10=>ret r10 σ) (A.rd (Ya 0 [t0] σ) fun t11=>
 A.rd (Qa [t11] σ) fun t12=>A.call (.call 114) [t12] σ fun t13 σ=>A.wr (Yf [jv 0,jv 0] [] σ) σ fun t14 σ=>A.wr (Zc 2 [t14,t13] σ) σ fun _ σ=>
 A.rd (Ya 0 [t14] σ) fun t15=>A.rd (Qa [t15] σ) fun t16=>A.rd (Qb .neq false [t16,jv 0] σ) fun t17=>A.test t17 (A.rd (Ze true 2 [t14] σ) fun t18=>
 A.wr (Zc 2 [t1,t18] σ) σ fun _ σ=>A.opt (cellV true 2 t1 σ) fun r19=>ret r19 σ) (A.loop (fun ag20 v21 σ=>A.rd (Ya 1 [t0] σ) fun t22=>A.rd (Qa [t22] σ) fun t23=>
 A.rd (Qg [t23] σ) fun t24=>A.rd (Qb .lss false [(h0 v21),t24] σ) fun t25=>A.test t25 (A.rd (Ze true 2 [t0] σ) fun t26=>A.call (.call 115) [t26,(h0 v21)] σ fun t27 σ=>
 A.rd (Yp .not [t27] σ) fun t28=>A.test t28 (A.rd (Ya 1 [t0] σ) fun t29=>A.rd (Qa [t29] σ) fun t30=>A.rd (Xd 7 [t30,(h0 v21)] σ) fun t31=>
 A.rd (Ya 6 [t31] σ) fun t32=>A.rd (Qa [t32] σ) fun t33=>A.rd (Xg [jv 0,jv 0] [(0,1),(1,1)] [jv 151,t33] σ) fun t34=>A.wr (Zc 2 [t1,t34] σ) σ fun _ σ=>
 A.opt (cellV true 2 t1 σ) fun r35=>ret r35 σ) (A.rd (Qb .add false [(h0 v21),jv 1] σ) fun t36=>ag20 [t36] σ)) (A.rd (Xg [jv 0,jv 0] [] [] σ) fun t37=>
 A.wr (Zc 2 [t1,t37] σ) σ fun _ σ=>A.opt (cellV true 2 t1 σ) fun r38=>ret r38 σ)) [jv 0] σ))
 | _=>A.stop
abbrev n67:List (Option (List Nat)):=[none,none,none,some [5],none,none,none]
theorem g67_ok:GOk prog GL0 67 1 g67:=gok1 (l:=n67) (by kernel_rfl) fun _ _ _ _ _=>by kernel_rfl
def g68:GFun:=fun A xs σ ret=>match xs with
 | [x0,x1]=>
 A.wr (Zo [x0] σ) σ fun t0 σ=>A.wr (Zo [x1] σ) σ fun t1 σ=>A.loop (fun ag2 v3 σ=>A.rd (Qb .lss false [(h0 v3),jv 2] σ) fun t4=>A.test t4 (A.rd (Ya 7 [t1] σ) fun t5=>
 A.rd (Yi 2 8 [t5,(h0 v3)] σ) fun t6=>A.rd (Ze true 8 [t6] σ) fun t7=>A.wr (Yf zq3 [] σ) σ fun t8 σ=>A.wr (Zc 8 [t8,t7] σ) σ fun _ σ=>
 A.rd (Ya 0 [t8] σ) fun t9=>A.rd (Qa [t9] σ) fun t10=>A.call (.call 116) [t10] σ fun t11 σ=>A.rd (Yp .not [t11] σ) fun t12=>A.gof t12 (Ya 1 [t8] σ) fun t13=>
 A.gof t12 (Qa [t13] σ) fun t14=>A.gof t12 (Qb .lss false [t14,jv 0] σ) fun t15=>A.rd (Qc [t12,.bool true,t15] σ) fun t16=>A.gof t16 (Ya 1 [t8] σ) fun t17=>
 A.gof t16 (Qa [t17] σ) fun t18=>A.gw t16 false (fun k=>A.call (.call 116) [t18] σ k) σ fun t19 σ=>A.gof t16 (Yp .not [t19] σ) fun t20=>A.rd (Qc [t16,.bool true,t20] σ) fun t21=>
 A.gof t21 (Ya 2 [t8] σ) fun t22=>A.gof t21 (Qa [t22] σ) fun t23=>A.gof t21 (Qb .lss false [t23,jv 0] σ) fun t24=>A.rd (Qc [t21,.bool true,t24] σ) fun t25=>
 A.gof t25 (Ya 2 [t8] σ) fun t26=>A.gof t25 (Qa [t26] σ) fun t27=>A.gof t25 (Qb .gtr false [t27,jv 10] σ) fun t28=>A.rd (Qc [t25,.bool true,t28] σ) fun t29=>
 A.test t29 (ret (.bool false) σ) (A.rd (Ze true 2 [t0] σ) fun t30=>A.rd (Ya 3 [t8] σ) fun t31=>A.rd (Qa [t31] σ) fun t32=>A.call (.call 117) [t30,t32,jv 60] σ fun t33 σ=>
 A.rd (Yp .not [t33] σ) fun t34=>A.gof t34 (Ze true 2 [t0] σ) fun t35=>A.gof t34 (Ya 4 [t8] σ) fun t36=>A.gof t34 (Qa [t36] σ) fun t37=>A.gw t34 false (fun k=>A.call (.call 117) [t35,t37,jv 10] σ k) σ fun t38 σ=>
 A.gof t34 (Yp .not [t38] σ) fun t39=>A.rd (Qc [t34,.bool true,t39] σ) fun t40=>A.gof t40 (Ze true 2 [t0] σ) fun t41=>A.gof t40 (Ya 5 [t8] σ) fun t42=>
 A.gof t40 (Qa [t42] σ) fun t43=>A.gw t40 false (fun k=>A.call (.call 117) [t41,t43,jv 1000000] σ k) σ fun t44 σ=>A.gof t40 (Yp .not [t44] σ) fun t45=>
 A.rd (Qc [t40,.bool true,t45] σ) fun t46=>A.gof t46 (Ze true 2 [t0] σ) fun t47=>A.gof t46 (Ya 7 [t8] σ) fun t48=>A.gof t46 (Qa [t48] σ) fun t49=>
 A.gw t46 false (fun k=>A.call (.call 117) [t47,t49,jv 1000000] σ k) σ fun t50 σ=>A.gof t46 (Yp .not [t50] σ) fun t51=>A.rd (Qc [t46,.bool true,t51] σ) fun t52=>
 A.gof t52 (Ya 6 [t8] σ) fun t53=>A.gof t52 (Qa [t53] σ) fun t54=>A.gof t52 (Qg [t54] σ) fun t55=>A.gof t52 (Qb .gtr false [t55,jv 7] σ) fun t56=>
 A.rd (Qc [t52,.bool true,t56] σ) fun t57=>A.test t57 (ret (.bool false) σ) (A.loop (fun ag58 v59 σ=>A.rd (Ya 6 [t8] σ) fun t60=>A.rd (Qa [t60] σ) fun t61=>
 A.rd (Qg [t61] σ) fun t62=>A.rd (Qb .lss false [(h0 v59),t62] σ) fun t63=>A.test t63 (A.rd (Ya 6 [t8] σ) fun t64=>A.rd (Qa [t64] σ) fun t65=>
 A.rd (Xd 4 [t65,(h0 v59)] σ) fun t66=>A.rd (Ze true 4 [t66] σ) fun t67=>A.wr (Yf zq4 [] σ) σ fun t68 σ=>A.wr (Zc 4 [t68,t67] σ) σ fun _ σ=>
 A.rd (Ya 1 [t68] σ) fun t69=>A.rd (Qa [t69] σ) fun t70=>A.rd (Qb .lss false [t70,jv 0] σ) fun t71=>A.gof t71 (Ya 1 [t68] σ) fun t72=>
 A.gof t71 (Qa [t72] σ) fun t73=>A.gof t71 (Ya 0 [t0] σ) fun t74=>A.gof t71 (Qa [t74] σ) fun t75=>A.gof t71 (Qg [t75] σ) fun t76=>A.gof t71 (Qb .geq false [t73,t76] σ) fun t77=>
 A.rd (Qc [t71,.bool true,t77] σ) fun t78=>A.gof t78 (Ya 0 [t0] σ) fun t79=>A.gof t78 (Qa [t79] σ) fun t80=>A.gof t78 (Ya 1 [t68] σ) fun t81=>
 A.gof t78 (Qa [t81] σ) fun t82=>A.gof t78 (Xd 12 [t80,t82] σ) fun t83=>A.gof t78 (Ya 1 [t83] σ) fun t84=>A.gof t78 (Qa [t84] σ) fun t85=>
 A.gof t78 (Yp .not [t85] σ) fun t86=>A.rd (Qc [t78,.bool true,t86] σ) fun t87=>A.gof t87 (Ya 2 [t68] σ) fun t88=>A.gof t87 (Qa [t88] σ) fun t89=>
 A.gof t87 (Qb .lss false [t89,jv 0] σ) fun t90=>A.rd (Qc [t87,.bool true,t90] σ) fun t91=>A.gof t91 (Ya 2 [t68] σ) fun t92=>A.gof t91 (Qa [t92] σ) fun t93=>
 A.gof t91 (Qb .gtr false [t93,jv 1000000] σ) fun t94=>A.rd (Qc [t91,.bool true,t94] σ) fun t95=>A.gof t95 (Ya 0 [t68] σ) fun t96=>A.gof t95 (Qa [t96] σ) fun t97=>
 A.gof t95 (Qb .lss false [t97,jv 1] σ) fun t98=>A.rd (Qc [t95,.bool true,t98] σ) fun t99=>A.gof t99 (Ya 0 [t68] σ) fun t100=>A.gof t99 (Qa [t100] σ) fun t101=>
 A.gof t99 (Ya 6 [t1] σ) fun t102=>A.gof t99 (Qa [t102] σ) fun t103=>A.gof t99 (Qb .geq false [t101,t103] σ) fun t104=>A.rd (Qc [t99,.bool true,t104] σ) fun t105=>
 A.test t105 (ret (.bool false) σ) (A.loop (fun ag106 v107 σ=>A.rd (Qg [(h1 v59)] σ) fun t108=>A.rd (Qb .lss false [(h0 v107),t108] σ) fun t109=>A.test t109 (
 A.rd (Xd 1 [(h1 v59),(h0 v107)] σ) fun t110=>A.rd (Qa [t110] σ) fun t111=>A.rd (Ya 0 [t68] σ) fun t112=>A.rd (Qa [t112] σ) fun t113=>
 A.rd (Qb .eql false [t111,t113] σ) fun t114=>A.test t114 (ret (.bool false) σ) (A.rd (Qb .add false [(h0 v107),jv 1] σ) fun t115=>ag106 [t115] σ)) (
 A.rd (Ya 0 [t68] σ) fun t116=>A.rd (Qa [t116] σ) fun t117=>A.wr (Yl 1 1 [jv 0] [(0,1)] [t117] σ) σ fun t118 σ=>A.wr (Yk 1 8 [(h1 v59),t118] σ) σ fun t119 σ=>
 A.rd (Qb .add false [(h0 v59),jv 1] σ) fun t120=>ag58 [t120,t119] σ)) [jv 0] σ)) (A.rd (Qb .add false [(h0 v3),jv 1] σ) fun t121=>ag2 [t121,(h1 v59)] σ)) [jv 0,(h1 v3)] σ))) (
 ret (.bool true) σ)) [jv 0,.nils] σ
 | _=>A.stop
abbrev n68:List (Option (List Nat)):=[none,some [6,5],none,none,none,none,none,some [8,5],none,none,none,none,some [10],none,none,none]
theorem g68_ok:GOk prog GL0 68 2 g68:=gok2 (l:=n68) (by kernel_rfl) fun _ _ _ _ _ _=>by kernel_rfl
def g71:GFun:=fun A xs σ ret=>match xs with
 | [x0,x1]=>
 A.wr (Zo [x0] σ) σ fun t0 σ=>A.wr (Zo [x1] σ) σ fun t1 σ=>A.loop (fun ag2 v3 σ=>A.rd (Qb .lss false [(h0 v3),jv 2] σ) fun t4=>A.test t4 (A.rd (Ya 7 [t0] σ) fun t5=>
 A.rd (Yi 2 8 [t5,(h0 v3)] σ) fun t6=>A.rd (Ya 6 [t6] σ) fun t7=>A.rd (Qa [t7] σ) fun t8=>A.rd (Zp (.func 119) 0 [t1] σ) fun t9=>
 A.call (.call 118) [t8,t9] σ fun t10 σ=>A.rd (Qb .geq false [t10,jv 0] σ) fun t11=>A.test t11 (ret (.tup [(h0 v3),t10,.bool true]) σ) (A.rd (Qb .add false [(h0 v3),jv 1] σ) fun t12=>
 ag2 [t12] σ)) (ret (.tup zq6) σ)) [jv 0] σ
 | _=>A.stop
abbrev n71:List (Option (List Nat)):=[none,some [9],none,none,none]
theorem g71_ok:GOk prog GL0 71 2 g71:=gok2 (l:=n71) (by kernel_rfl) fun _ _ _ _ _ _=>by kernel_rfl
def g72:GFun:=fun A xs σ ret=>match xs with
 | [x0,x1,x2]=>
 A.rd (Qg [x0] σ) fun t0=>A.rd (Xai [x0,x1,x2,t0] σ) fun t1=>A.rd (Qb .eql false [x1,x2] σ) fun t2=>A.test t2 (ret x0 σ) (A.rd (Qg [x0] σ) fun t3=>
 A.dr (Yai 4 [x0,x1] σ) σ fun t4 l5 σ=>A.dr (Q9 4 [x0,x2] σ) σ fun t6 l7 σ=>A.dr (Yk 4 32 [t4,t6] σ) σ fun t8 l9 σ=>A.gd (Xk [[],[],[0,1],[],[],[3,4],[0,1,2,3,4,5],[0,1,2,3,4,5,6]] [([],[]),([],[]),l5,([],[]),([],[]),l7,l9,([],[])]) <|
 A.rd (Qg [t8] σ) fun t10=>A.rd (YaG 4 [t8,t10,t3] σ) fun t11=>A.wr (YaB 4 zq4 [t11] σ) σ fun _ σ=>ret t8 σ)
 | _=>A.stop
abbrev n72:List (Option (List Nat)):=[none]
theorem g72_ok:GOk prog GL0 72 3 g72:=gok3 (l:=n72) (by kernel_rfl) fun _ _ _ _ _ _ _=>by kernel_rfl
end Go.Ah.Tz
end
section
namespace Go.Ah.Tz
open Go.Proofs.Tryz (prog)
set_option maxRecDepth 100000
def g73:GFun:=fun A xs σ ret=>match xs with
 | [x0,x1]=>
 A.call (.call 120) [x0,x1] σ fun t0 σ=>A.rd (Qb .eql false [t0,jv (-1)] σ) fun t1=>A.test t1 (ret x0 σ) (A.rd (Qb .add false [t0,jv 1] σ) fun t2=>
 A.loop (fun ag3 v4 σ=>A.rd (Qg [x0] σ) fun t5=>A.rd (Qb .lss false [(h0 v4),t5] σ) fun t6=>A.test t6 (joinK (fun k7=>A.rd (Xd 1 [x0,(h0 v4)] σ) fun t9=>
 A.rd (Qa [t9] σ) fun t10=>A.call .callv [x1,t10] σ fun t11 σ=>A.rd (Yp .not [t11] σ) fun t12=>A.test t12 (A.rd (Xd 1 [x0,(h1 v4)] σ) fun t13=>
 A.wr (Zc 1 [t13,t10] σ) σ fun _ σ=>A.rd (Qb .add false [(h1 v4),jv 1] σ) fun t14=>k7 [t14] σ) (k7 [(h1 v4)] σ)) (fun v8 σ=>A.rd (Qb .add false [(h0 v4),jv 1] σ) fun t15=>
 ag3 [t15,(h0 v8)] σ)) (A.rd (Q9 1 [x0,(h1 v4)] σ) fun t16=>A.wr (YaB 1 [jv 0] [t16] σ) σ fun _ σ=>A.rd (Yai 1 [x0,(h1 v4)] σ) fun t17=>ret t17 σ)) [t2,t0] σ)
 | _=>A.stop
abbrev n73:List (Option (List Nat)):=[none,none,some [6,5],none,some [5],none]
theorem g73_ok:GOk prog GL0 73 2 g73:=gok2 (l:=n73) (by kernel_rfl) fun _ _ _ _ _ _=>by kernel_rfl
def g74:GFun:=fun A xs σ ret=>match xs with
 | [x0,x1]=>
 A.rd (Qa [x1] σ) fun t0=>A.rd (Qb .eql false [x0,t0] σ) fun t1=>ret t1 σ
 | _=>A.stop
abbrev n74:List (Option (List Nat)):=[]
theorem g74_ok:GOk prog GL0 74 2 g74:=gok2 (l:=n74) (by kernel_rfl) fun _ _ _ _ _ _=>by kernel_rfl
def g75:GFun:=fun A xs σ ret=>match xs with
 | [x0,x1,x2]=>
 A.rd (Xb [x0] σ) fun t0=>A.rd (Ya 1 [t0] σ) fun t1=>A.rd (Ya 7 [t1] σ) fun t2=>A.rd (Yi 2 8 [t2,x1] σ) fun t3=>A.rd (Ya 6 [t3] σ) fun t4=>
 A.rd (Qa [t4] σ) fun t5=>A.rd (Qg [t5] σ) fun t6=>A.loop (fun ag7 v8 σ=>A.rd (Qb .lss false [(h0 v8),t6] σ) fun t9=>A.test t9 (joinK (fun k10=>
 A.rd (Xd 4 [t5,(h0 v8)] σ) fun t12=>A.rd (Ze true 4 [t12] σ) fun t13=>A.wr (Yf zq4 [] σ) σ fun t14 σ=>A.wr (Zc 4 [t14,t13] σ) σ fun _ σ=>
 A.rd (Xb [x0] σ) fun t15=>A.rd (Ya 0 [t15] σ) fun t16=>A.rd (Qa [t16] σ) fun t17=>A.rd (Xb [t17] σ) fun t18=>A.rd (Ya 0 [t18] σ) fun t19=>
 A.rd (Qa [t19] σ) fun t20=>A.rd (Ya 1 [t14] σ) fun t21=>A.rd (Qa [t21] σ) fun t22=>A.rd (Xd 12 [t20,t22] σ) fun t23=>A.rd (Qb .eql false [(h0 v8),x2] σ) fun t24=>
 A.test t24 (A.rd (Xb [t23] σ) fun t25=>A.rd (Ya 3 [t25] σ) fun t26=>A.rd (Qa [t26] σ) fun t27=>A.rd (Qb .add false [(h1 v8),t27] σ) fun t28=>
 A.rd (Xb [t23] σ) fun t29=>A.rd (Ya 4 [t29] σ) fun t30=>A.rd (Qa [t30] σ) fun t31=>A.rd (Qb .add false [(h2 v8),t31] σ) fun t32=>k10 [t28,t32] σ) (
 A.rd (Xb [t23] σ) fun t33=>A.rd (Ya 6 [t33] σ) fun t34=>A.rd (Qa [t34] σ) fun t35=>A.rd (Qb .add false [(h1 v8),t35] σ) fun t36=>A.rd (Xb [t23] σ) fun t37=>
 A.rd (Ya 7 [t37] σ) fun t38=>A.rd (Qa [t38] σ) fun t39=>A.rd (Qb .add false [(h2 v8),t39] σ) fun t40=>k10 [t36,t40] σ)) (fun v11 σ=>A.rd (Qb .add false [(h0 v8),jv 1] σ) fun t41=>
 ag7 [t41,(h0 v11),(h1 v11)] σ)) (ret (.tup [(h1 v8),(h2 v8)]) σ)) [jv 0,jv 0,jv 0] σ
 | _=>A.stop
abbrev n75:List (Option (List Nat)):=[none,some [20,6,7],none,some [6,7],none]
theorem g75_ok:GOk prog GL0 75 3 g75:=gok3 (l:=n75) (by kernel_rfl) fun _ _ _ _ _ _ _=>by kernel_rfl
def g76:GFun:=fun A xs σ ret=>match xs with
 | [x0]=>
 A.wr (Zo [x0] σ) σ fun t0 σ=>A.loop (fun ag1 v2 σ=>A.rd (Ya 3 [t0] σ) fun t3=>A.rd (Qa [t3] σ) fun t4=>A.rd (Qg [t4] σ) fun t5=>A.rd (Qb .lss false [(h0 v2),t5] σ) fun t6=>
 A.test t6 (A.rd (Ya 3 [t0] σ) fun t7=>A.rd (Qa [t7] σ) fun t8=>A.rd (Xd 4 [t8,(h0 v2)] σ) fun t9=>A.rd (Ze true 4 [t9] σ) fun t10=>
 A.call (.call 76) [t10] σ fun t11 σ=>A.rd (Qb .add false [(h1 v2),t11] σ) fun t12=>A.rd (ZX [t12,jv 1073741824] σ) fun t13=>A.rd (Qb .add false [(h0 v2),jv 1] σ) fun t14=>
 ag1 [t14,t13] σ) (ret (h1 v2) σ)) [jv 0,jv 1] σ
 | _=>A.stop
abbrev n76:List (Option (List Nat)):=[none,some [4,3],none,none]
theorem g76_ok:GOk prog GL0 76 1 g76:=gok1 (l:=n76) (by kernel_rfl) fun _ _ _ _ _=>by kernel_rfl
def g77:GFun:=fun A xs σ ret=>match xs with
 | [x0,x1]=>
 A.wr (Zo [x1] σ) σ fun t0 σ=>A.rd (Ya 0 [t0] σ) fun t1=>A.rd (Qa [t1] σ) fun t2=>A.rd (Qb .geq false [t2,.int .i8 8] σ) fun t3=>A.got t3 (Ya 0 [t0] σ) fun t4=>
 A.got t3 (Qa [t4] σ) fun t5=>A.got t3 (Qb .leq false [t5,.int .i8 12] σ) fun t6=>A.rd (Qc [t3,t6,.bool false] σ) fun t7=>joinK (fun k8=>A.test t7 (
 k8 [jv 2] σ) (k8 [jv 0] σ)) (fun v9 σ=>A.rd (Ya 0 [t0] σ) fun t10=>A.rd (Qa [t10] σ) fun t11=>A.rd (Qb .lss false [t11,.int .i8 0] σ) fun t12=>
 A.gof t12 (Ya 0 [t0] σ) fun t13=>A.gof t12 (Qa [t13] σ) fun t14=>A.gof t12 (Qb .gtr false [t14,.int .i8 12] σ) fun t15=>A.rd (Qc [t12,.bool true,t15] σ) fun t16=>
 A.gof t16 (Ya 3 [t0] σ) fun t17=>A.gof t16 (Qa [t17] σ) fun t18=>A.gof t16 (Qg [t18] σ) fun t19=>A.gof t16 (Zj [(h0 v9)] σ) fun t20=>A.gof t16 (Qb .neq false [t19,t20] σ) fun t21=>
 A.rd (Qc [t16,.bool true,t21] σ) fun t22=>A.test t22 (ret (.bool false) σ) (A.loop (fun ag23 v24 σ=>A.rd (Ya 3 [t0] σ) fun t25=>A.rd (Qa [t25] σ) fun t26=>
 A.rd (Qg [t26] σ) fun t27=>A.rd (Qb .lss false [(h0 v24),t27] σ) fun t28=>A.test t28 (A.rd (Ya 3 [t0] σ) fun t29=>A.rd (Qa [t29] σ) fun t30=>
 A.rd (Xd 4 [t30,(h0 v24)] σ) fun t31=>A.rd (Ze true 4 [t31] σ) fun t32=>A.call (.call 77) [x0,t32] σ fun t33 σ=>A.rd (Yp .not [t33] σ) fun t34=>
 A.test t34 (ret (.bool false) σ) (A.rd (Qb .add false [(h0 v24),jv 1] σ) fun t35=>ag23 [t35] σ)) (A.rd (Ya 0 [t0] σ) fun t36=>A.rd (Qa [t36] σ) fun t37=>
 A.rd (Qb .eql false [t37,.int .i8 0] σ) fun t38=>A.test t38 (A.rd (Ya 1 [t0] σ) fun t39=>A.rd (Qa [t39] σ) fun t40=>A.rd (Qb .geq false [t40,jv 0] σ) fun t41=>
 A.got t41 (Ya 1 [t0] σ) fun t42=>A.got t41 (Qa [t42] σ) fun t43=>A.got t41 (Qb .leq false [t43,jv 999] σ) fun t44=>A.rd (Qc [t41,t44,.bool false] σ) fun t45=>
 A.got t45 (Ya 2 [t0] σ) fun t46=>A.got t45 (Qa [t46] σ) fun t47=>A.got t45 (Qb .eql false [t47,.int .i8 0] σ) fun t48=>A.rd (Qc [t45,t48,.bool false] σ) fun t49=>
 ret t49 σ) (A.rd (Ya 1 [t0] σ) fun t50=>A.rd (Qa [t50] σ) fun t51=>A.rd (Qb .neq false [t51,jv 0] σ) fun t52=>A.test t52 (ret (.bool false) σ) (
 A.rd (Ya 0 [t0] σ) fun t53=>A.rd (Qa [t53] σ) fun t54=>A.rd (Qb .geq false [t54,.int .i8 1] σ) fun t55=>A.got t55 (Ya 0 [t0] σ) fun t56=>
 A.got t55 (Qa [t56] σ) fun t57=>A.got t55 (Qb .leq false [t57,.int .i8 4] σ) fun t58=>A.rd (Qc [t55,t58,.bool false] σ) fun t59=>A.test t59 (
 A.rd (Ya 2 [t0] σ) fun t60=>A.rd (Qa [t60] σ) fun t61=>A.call (.call 121) [t61] σ fun t62 σ=>ret t62 σ) (A.rd (Ya 2 [t0] σ) fun t63=>
 A.rd (Qa [t63] σ) fun t64=>A.rd (Qb .eql false [t64,.int .i8 0] σ) fun t65=>A.got t65 (Ya 0 [t0] σ) fun t66=>A.got t65 (Qa [t66] σ) fun t67=>
 A.got t65 (Qb .neq false [t67,.int .i8 7] σ) fun t68=>A.got t65 (Zj [t68] σ) fun t69=>A.gof t69 (Zj [x0] σ) fun t70=>A.gof t69 (Xb [t70] σ) fun t71=>
 A.gof t69 (Ya 1 [t71] σ) fun t72=>A.gof t69 (Qa [t72] σ) fun t73=>A.got t65 (Qc [t69,.bool true,t73] σ) fun t74=>A.rd (Qc [t65,t74,.bool false] σ) fun t75=>
 ret t75 σ))))) [jv 0] σ))
 | _=>A.stop
abbrev n77:List (Option (List Nat)):=[some [5],none,none,some [6],none,none,none,none,none,none]
theorem g77_ok:GOk prog GL0 77 2 g77:=gok2 (l:=n77) (by kernel_rfl) fun _ _ _ _ _ _=>by kernel_rfl
def g78:GFun:=fun A xs σ ret=>match xs with
 | [x0]=>
 A.wr (Yf [.nils,.nils] [] σ) σ fun t0 σ=>A.wr (Yf [jv 0,jv 0] [] σ) σ fun t1 σ=>A.call (.call 122) [x0] σ fun t2 σ=>A.rd (Qe 0 [t2] σ) fun t3=>
 A.rd (Qe 1 [t2] σ) fun t4=>A.wr (Yf [.nils,.nils] [] σ) σ fun t5 σ=>A.wr (Yf [jv 0,jv 0] [] σ) σ fun t6 σ=>A.wr (Zc 2 [t5,t3] σ) σ fun _ σ=>
 A.wr (Zc 2 [t6,t4] σ) σ fun _ σ=>A.rd (Ya 0 [t6] σ) fun t7=>A.rd (Qa [t7] σ) fun t8=>A.rd (Qb .eql false [t8,jv 0] σ) fun t9=>joinK (fun k10=>
 A.test t9 (A.rd (Ze true 2 [t5] σ) fun t12=>A.call (.call 67) [t12] σ fun t13 σ=>A.wr (Zc 2 [t6,t13] σ) σ fun _ σ=>k10 [] σ) (k10 [] σ)) (fun v11 σ=>
 A.rd (Ya 0 [t6] σ) fun t14=>A.rd (Qa [t14] σ) fun t15=>A.rd (Qb .neq false [t15,jv 0] σ) fun t16=>A.test t16 (A.pu (Xg [.nils,.nils] [] [] σ) fun t17=>
 A.dr (Ze true 2 [t6] σ) σ fun t18 l19 σ=>A.dr (Zc 2 [t0,t17] σ) σ fun _ l20 σ=>A.dr (Zc 2 [t1,t18] σ) σ fun _ l21 σ=>A.gd (Xk [[],[],[0],[0,1,2]] [([],[]),l19,l20,l21]) <|
 A.opt (cellV true 2 t0 σ) fun r22=>A.opt (cellV true 2 t1 σ) fun r23=>ret (.tup [r22,r23]) σ) (A.rd (Ze true 2 [t5] σ) fun t24=>A.rd (Xg [jv 0,jv 0] [] [] σ) fun t25=>
 A.wr (Zc 2 [t0,t24] σ) σ fun _ σ=>A.wr (Zc 2 [t1,t25] σ) σ fun _ σ=>A.opt (cellV true 2 t0 σ) fun r26=>A.opt (cellV true 2 t1 σ) fun r27=>ret (.tup [r26,r27]) σ))
 | _=>A.stop
abbrev n78:List (Option (List Nat)):=[some [],none]
theorem g78_ok:GOk prog GL0 78 1 g78:=gok1 (l:=n78) (by kernel_rfl) fun _ _ _ _ _=>by kernel_rfl
def g96:GFun:=fun A xs σ ret=>match xs with
 | [x0]=>
 A.rd (XP .slice false false [x0,.nils] σ) fun t0=>A.test t0 (ret .nils σ) (A.rd (Zai 1 [] σ) fun t1=>A.wr (Yk 1 8 [t1,x0] σ) σ fun t2 σ=>ret t2 σ)
 | _=>A.stop
abbrev n96:List (Option (List Nat)):=[none]
theorem g96_ok:GOk prog GL0 96 1 g96:=gok1 (l:=n96) (by kernel_rfl) fun _ _ _ _ _=>by kernel_rfl
def g110:GFun:=fun A xs σ ret=>match xs with
 | [x0]=>
 A.wr (Zo [x0] σ) σ fun t0 σ=>A.pu (Ya 8 [t0] σ) fun t1=>A.dr (Qa [t1] σ) σ fun t2 l3 σ=>A.dcall (.call 142) [t2] σ fun t4 l5 σ=>A.pu (Ya 9 [t0] σ) fun t6=>
 A.dr (Qa [t6] σ) σ fun t7 l8 σ=>A.dcall (.call 142) [t7] σ fun t9 l10 σ=>A.pu (Qb .add false [t4,t9] σ) fun t11=>A.pu (Ya 10 [t0] σ) fun t12=>
 A.dr (Qa [t12] σ) σ fun t13 l14 σ=>A.dcall (.call 142) [t13] σ fun t15 l16 σ=>A.pu (Qb .add false [t11,t15] σ) fun t17=>A.pu (ZX [t17,jv 1073741824] σ) fun t18=>
 A.gd (Xk [[],[0],[0,1],[],[3],[0,1,2,3,4],[0,1,2,3,4,5],[],[7],[0,1,2,3,4,5,7,8],[0,1,2,3,4,5,6,7,8,9],[0,1,2,3,4,5,6,7,8,9,10],[0,1,2,3,4,5,6,7,8,9,10,11]] [([],[]),l3,l5,([],[]),l8,l10,([],[]),([],[]),l14,l16,([],[]),([],[]),([],[])]) <|
 ret t18 σ
 | _=>A.stop
abbrev n110:List (Option (List Nat)):=[]
theorem g110_ok:GOk prog GL0 110 1 g110:=gok1 (l:=n110) (by kernel_rfl) fun _ _ _ _ _=>by kernel_rfl
end Go.Ah.Tz
end
section
namespace Go.Ah.Tz
open Go.Proofs.Tryz (prog)
set_option maxRecDepth 100000
def g111:GFun:=fun A xs σ ret=>match xs with
 | [x0,x1,x2]=>
 A.rd (Xb [x1] σ) fun t0=>A.rd (Ya 0 [t0] σ) fun t1=>A.rd (Qa [t1] σ) fun t2=>A.rd (Qb .lss false [t2,jv 1] σ) fun t3=>joinK (fun k4=>
 A.test t3 (k4 [t3] σ) (A.rd (Xb [x1] σ) fun t6=>A.rd (Ya 0 [t6] σ) fun t7=>A.rd (Qa [t7] σ) fun t8=>A.rd (Qb .gtr false [t8,jv 4096] σ) fun t9=>
 A.test t9 (k4 [t9] σ) (A.rd (Xb [x1] σ) fun t10=>A.rd (Ya 1 [t10] σ) fun t11=>A.rd (Qa [t11] σ) fun t12=>A.rd (Qb .lss false [t12,jv 0] σ) fun t13=>
 A.test t13 (k4 [t13] σ) (A.rd (Xb [x1] σ) fun t14=>A.rd (Ya 1 [t14] σ) fun t15=>A.rd (Qa [t15] σ) fun t16=>A.rd (Qb .gtr false [t16,jv 1] σ) fun t17=>
 A.test t17 (k4 [t17] σ) (A.rd (Xb [x1] σ) fun t18=>A.rd (Ya 2 [t18] σ) fun t19=>A.rd (Qa [t19] σ) fun t20=>A.rd (Qb .lss false [t20,.int .i8 0] σ) fun t21=>
 A.test t21 (k4 [t21] σ) (A.rd (Xb [x1] σ) fun t22=>A.rd (Ya 2 [t22] σ) fun t23=>A.rd (Qa [t23] σ) fun t24=>A.rd (Qb .gtr false [t24,.int .i8 2] σ) fun t25=>
 A.test t25 (k4 [t25] σ) (A.rd (Xb [x1] σ) fun t26=>A.rd (Ya 4 [t26] σ) fun t27=>A.rd (Qa [t27] σ) fun t28=>A.rd (Qb .lss false [t28,.int .i8 0] σ) fun t29=>
 A.test t29 (k4 [t29] σ) (A.rd (Xb [x1] σ) fun t30=>A.rd (Ya 4 [t30] σ) fun t31=>A.rd (Qa [t31] σ) fun t32=>A.rd (Qb .gtr false [t32,.int .i8 3] σ) fun t33=>
 A.test t33 (k4 [t33] σ) (A.rd (Xb [x1] σ) fun t34=>A.rd (Ya 4 [t34] σ) fun t35=>A.rd (Qa [t35] σ) fun t36=>A.rd (Qb .eql false [t36,.int .i8 0] σ) fun t37=>
 A.rd (Xb [x1] σ) fun t38=>A.rd (Ya 2 [t38] σ) fun t39=>A.rd (Qa [t39] σ) fun t40=>A.rd (Qb .neq false [t40,.int .i8 2] σ) fun t41=>
 A.rd (Qb .neq true [t37,t41] σ) fun t42=>A.test t42 (k4 [t42] σ) (A.rd (Xb [x1] σ) fun t43=>A.rd (Ya 6 [t43] σ) fun t44=>A.rd (Qa [t44] σ) fun t45=>
 A.rd (Qb .lss false [t45,jv 1] σ) fun t46=>A.test t46 (k4 [t46] σ) (A.rd (Xb [x1] σ) fun t47=>A.rd (Ya 6 [t47] σ) fun t48=>A.rd (Qa [t48] σ) fun t49=>
 A.rd (Qb .gtr false [t49,jv 1000000] σ) fun t50=>A.test t50 (k4 [t50] σ) (A.rd (Xb [x1] σ) fun t51=>A.rd (Ya 5 [t51] σ) fun t52=>A.rd (Qa [t52] σ) fun t53=>
 A.rd (Qg [t53] σ) fun t54=>A.rd (Qb .gtr false [t54,jv 7] σ) fun t55=>A.test t55 (k4 [t55] σ) (A.rd (Xb [x0] σ) fun t56=>A.rd (Ze true 2 [t56] σ) fun t57=>
 A.call (.call 143) [t57] σ fun t58 σ=>A.rd (QaC false 0 1 [t58] σ) fun t59=>A.rd (Qb .neq false [t59,jv 0] σ) fun t60=>k4 [t60] σ))))))))))))) (fun v5 σ=>
 A.test (h0 v5) (ret (.bool false) σ) (A.wr (XG [] σ) σ fun t61 σ=>A.loop (fun ag62 v63 σ=>A.rd (Qb .lss false [(h0 v63),jv 2] σ) fun t64=>A.test t64 (
 A.call (.call 144) [x0,x1,(h0 v63),t61] σ fun t65 σ=>A.rd (Yp .not [t65] σ) fun t66=>A.test t66 (ret (.bool false) σ) (A.rd (Qb .add false [(h0 v63),jv 1] σ) fun t67=>
 ag62 [t67] σ)) (A.rd (Xb [x1] σ) fun t68=>A.rd (Ya 2 [t68] σ) fun t69=>A.rd (Qa [t69] σ) fun t70=>A.rd (Qb .neq false [t70,.int .i8 1] σ) fun t71=>
 A.test t71 (A.rd (Xb [x1] σ) fun t72=>A.rd (Ya 5 [t72] σ) fun t73=>A.rd (Qa [t73] σ) fun t74=>A.rd (Qg [t74] σ) fun t75=>A.rd (Qb .eql false [t75,jv 0] σ) fun t76=>
 ret t76 σ) (A.wr (XG [] σ) σ fun t77 σ=>A.rd (Xb [x1] σ) fun t78=>A.rd (Ya 5 [t78] σ) fun t79=>A.rd (Qa [t79] σ) fun t80=>A.rd (Qg [t80] σ) fun t81=>
 A.loop (fun ag82 v83 σ=>A.rd (Qb .lss false [(h0 v83),t81] σ) fun t84=>A.test t84 (A.rd (Xd 1 [t80,(h0 v83)] σ) fun t85=>A.rd (Qa [t85] σ) fun t86=>
 A.rd (Xt false true (jv 0) [t61,t86] σ) fun t87=>A.rd (Qe 0 [t87] σ) fun t88=>A.rd (Qe 1 [t87] σ) fun t89=>A.rd (Yp .not [t89] σ) fun t90=>
 A.gof t90 (Zj [t88] σ) fun t91=>A.gof t90 (Zj [x1] σ) fun t92=>A.gof t90 (Xb [t92] σ) fun t93=>A.gof t90 (Ya 1 [t93] σ) fun t94=>A.gof t90 (Qa [t94] σ) fun t95=>
 A.gof t90 (Qb .neq false [t91,t95] σ) fun t96=>A.rd (Qc [t90,.bool true,t96] σ) fun t97=>A.gof t97 (Zj [t77] σ) fun t98=>A.gof t97 (Zj [t86] σ) fun t99=>
 A.gof t97 (Xt false false (.bool false) [t98,t99] σ) fun t100=>A.rd (Qc [t97,.bool true,t100] σ) fun t101=>A.test t101 (ret (.bool false) σ) (A.wr (ZA false [t77,t86,.bool true] σ) σ fun _ σ=>
 A.rd (Qb .add false [(h0 v83),jv 1] σ) fun t102=>ag82 [t102] σ)) (A.rd (Xb [x1] σ) fun t103=>A.rd (Ya 3 [t103] σ) fun t104=>A.rd (Qa [t104] σ) fun t105=>
 A.got t105 (Zj [x2] σ) fun t106=>A.got t105 (Zj [t106] σ) fun t107=>A.gof t107 (Zj [x1] σ) fun t108=>A.gof t107 (Xb [t108] σ) fun t109=>A.gof t107 (Ya 5 [t109] σ) fun t110=>
 A.gof t107 (Qa [t110] σ) fun t111=>A.gof t107 (Qg [t111] σ) fun t112=>A.gof t107 (Qb .gtr false [t112,jv 0] σ) fun t113=>A.got t105 (Qc [t107,.bool true,t113] σ) fun t114=>
 A.rd (Qc [t105,t114,.bool false] σ) fun t115=>ret t115 σ)) [jv 0] σ))) [jv 0] σ))
 | _=>A.stop
abbrev n111:List (Option (List Nat)):=[none,some [14],none,none,none,none,none,none,none,none,none,none,none,none,none,some [89],none,none,none,none,none,some [116],none,none,none]
theorem g111_ok:GOk prog GL0 111 3 g111:=gok3 (l:=n111) (by kernel_rfl) fun _ _ _ _ _ _ _=>by kernel_rfl
def g112:GFun:=fun A xs σ ret=>match xs with
 | [x0]=>
 A.rd (XP .slice false false [x0,.nils] σ) fun t0=>A.test t0 (ret .nils σ) (A.rd (Zai 4 [] σ) fun t1=>A.wr (Yk 4 32 [t1,x0] σ) σ fun t2 σ=>
 ret t2 σ)
 | _=>A.stop
abbrev n112:List (Option (List Nat)):=[none]
theorem g112_ok:GOk prog GL0 112 1 g112:=gok1 (l:=n112) (by kernel_rfl) fun _ _ _ _ _=>by kernel_rfl
def g113:GFun:=fun A xs σ ret=>match xs with
 | [x0]=>
 A.wr (Yf [jv 0,jv 0] [] σ) σ fun t0 σ=>A.rd (Qg [x0] σ) fun t1=>A.rd (Qb .gtr false [t1,jv 240] σ) fun t2=>A.test t2 (A.rd (Xg [jv 0,jv 0] [(0,1)] [jv 3] σ) fun t3=>
 A.wr (Zc 2 [t0,t3] σ) σ fun _ σ=>A.opt (cellV true 2 t0 σ) fun r4=>ret r4 σ) (A.loop (fun ag5 v6 σ=>A.rd (Qg [x0] σ) fun t7=>A.rd (Qb .lss false [(h0 v6),t7] σ) fun t8=>
 A.test t8 (A.loop (fun ag9 v10 σ=>A.rd (Qb .lss false [(h0 v10),(h0 v6)] σ) fun t11=>A.test t11 (A.rd (Xd 12 [x0,(h0 v10)] σ) fun t12=>A.rd (Ya 0 [t12] σ) fun t13=>
 A.rd (Qa [t13] σ) fun t14=>A.rd (Xd 12 [x0,(h0 v6)] σ) fun t15=>A.rd (Ya 0 [t15] σ) fun t16=>A.rd (Qa [t16] σ) fun t17=>A.rd (Qb .eql false [t14,t17] σ) fun t18=>
 A.test t18 (A.rd (Xd 12 [x0,(h0 v6)] σ) fun t19=>A.rd (Ya 11 [t19] σ) fun t20=>A.rd (Qa [t20] σ) fun t21=>A.rd (Xg [jv 0,jv 0] [(0,1),(1,1)] [jv 101,t21] σ) fun t22=>
 A.wr (Zc 2 [t0,t22] σ) σ fun _ σ=>A.opt (cellV true 2 t0 σ) fun r23=>ret r23 σ) (A.rd (Qb .add false [(h0 v10),jv 1] σ) fun t24=>ag9 [t24] σ)) (A.rd (Xd 12 [x0,(h0 v6)] σ) fun t25=>
 A.rd (Ze true 12 [t25] σ) fun t26=>A.call (.call 145) [x0,t26] σ fun t27 σ=>A.rd (Yp .not [t27] σ) fun t28=>A.test t28 (A.rd (Xd 12 [x0,(h0 v6)] σ) fun t29=>
 A.rd (Ya 11 [t29] σ) fun t30=>A.rd (Qa [t30] σ) fun t31=>A.rd (Xg [jv 0,jv 0] [(0,1),(1,1)] [jv 130,t31] σ) fun t32=>A.wr (Zc 2 [t0,t32] σ) σ fun _ σ=>
 A.opt (cellV true 2 t0 σ) fun r33=>ret r33 σ) (A.rd (Qb .add false [(h0 v6),jv 1] σ) fun t34=>ag5 [t34] σ))) [jv 0] σ) (A.rd (Xg [jv 0,jv 0] [] [] σ) fun t35=>
 A.wr (Zc 2 [t0,t35] σ) σ fun _ σ=>A.opt (cellV true 2 t0 σ) fun r36=>ret r36 σ)) [jv 0] σ)
 | _=>A.stop
abbrev n113:List (Option (List Nat)):=[none,none,some [3],none,none,none,some [4],none,none,none,none]
theorem g113_ok:GOk prog GL0 113 1 g113:=gok1 (l:=n113) (by kernel_rfl) fun _ _ _ _ _=>by kernel_rfl
def g114:GFun:=fun A xs σ ret=>match xs with
 | [x0]=>
 A.wr (Yf [jv 0,jv 0] [] σ) σ fun t0 σ=>A.loop (fun ag1 v2 σ=>A.rd (Qg [x0] σ) fun t3=>A.rd (Qb .lss false [(h0 v2),t3] σ) fun t4=>A.test t4 (
 A.rd (Xd 12 [x0,(h0 v2)] σ) fun t5=>A.rd (Ze true 12 [t5] σ) fun t6=>A.wr (Yf [.str [],.bool false,jv 0,jv 0,jv 0,jv 0,jv 0,jv 0,.nils,.nils,.nils,jv 0] [] σ) σ fun t7 σ=>
 A.wr (Zc 12 [t7,t6] σ) σ fun _ σ=>A.rd (Ya 8 [t7] σ) fun t8=>A.rd (Qa [t8] σ) fun t9=>A.call (.call 146) [.int .i8 0,t9] σ fun t10 σ=>
 A.rd (Yp .not [t10] σ) fun t11=>A.gof t11 (Ya 9 [t7] σ) fun t12=>A.gof t11 (Qa [t12] σ) fun t13=>A.gw t11 false (fun k=>A.call (.call 146) [.int .i8 0,t13] σ k) σ fun t14 σ=>
 A.gof t11 (Yp .not [t14] σ) fun t15=>A.rd (Qc [t11,.bool true,t15] σ) fun t16=>A.gof t16 (Ya 10 [t7] σ) fun t17=>A.gof t16 (Qa [t17] σ) fun t18=>
 A.gw t16 false (fun k=>A.call (.call 146) [.int .i8 0,t18] σ k) σ fun t19 σ=>A.gof t16 (Yp .not [t19] σ) fun t20=>A.rd (Qc [t16,.bool true,t20] σ) fun t21=>
 A.test t21 (A.rd (Ya 11 [t7] σ) fun t22=>A.rd (Qa [t22] σ) fun t23=>A.rd (Xg [jv 0,jv 0] [(0,1),(1,1)] [jv 140,t23] σ) fun t24=>
 A.wr (Zc 2 [t0,t24] σ) σ fun _ σ=>A.opt (cellV true 2 t0 σ) fun r25=>ret r25 σ) (A.rd (Qb .add false [(h0 v2),jv 1] σ) fun t26=>ag1 [t26] σ)) (A.rd (Xg [jv 0,jv 0] [] [] σ) fun t27=>
 A.wr (Zc 2 [t0,t27] σ) σ fun _ σ=>A.opt (cellV true 2 t0 σ) fun r28=>ret r28 σ)) [jv 0] σ
 | _=>A.stop
abbrev n114:List (Option (List Nat)):=[none,some [3],none,none,none]
theorem g114_ok:GOk prog GL0 114 1 g114:=gok1 (l:=n114) (by kernel_rfl) fun _ _ _ _ _=>by kernel_rfl
def g115:GFun:=fun A xs σ ret=>match xs with
 | [x0,x1]=>
 A.wr (Zo [x0] σ) σ fun t0 σ=>A.rd (Ya 1 [t0] σ) fun t1=>A.rd (Qa [t1] σ) fun t2=>A.rd (Xd 7 [t2,x1] σ) fun t3=>A.rd (Ze true 7 [t3] σ) fun t4=>
 A.wr (Yf [.str [],jv 0,jv 0,jv 0,.nils,.nils,jv 0] [] σ) σ fun t5 σ=>A.wr (Zc 7 [t5,t4] σ) σ fun _ σ=>A.loop (fun ag6 v7 σ=>A.rd (Qb .lss false [(h0 v7),x1] σ) fun t8=>
 A.test t8 (A.rd (Ya 1 [t0] σ) fun t9=>A.rd (Qa [t9] σ) fun t10=>A.rd (Xd 7 [t10,(h0 v7)] σ) fun t11=>A.rd (Ya 0 [t11] σ) fun t12=>
 A.rd (Qa [t12] σ) fun t13=>A.rd (Ya 0 [t5] σ) fun t14=>A.rd (Qa [t14] σ) fun t15=>A.rd (Qb .eql false [t13,t15] σ) fun t16=>A.test t16 (
 ret (.bool false) σ) (A.rd (Qb .add false [(h0 v7),jv 1] σ) fun t17=>ag6 [t17] σ)) (A.rd (Qb .geq false [x1,jv 240] σ) fun t18=>A.gof t18 (Ya 0 [t5] σ) fun t19=>
 A.gof t18 (Qa [t19] σ) fun t20=>A.gw t18 false (fun k=>A.call (.call 147) [t20] σ k) σ fun t21 σ=>A.gof t18 (Yp .not [t21] σ) fun t22=>A.rd (Qc [t18,.bool true,t22] σ) fun t23=>
 A.test t23 (ret (.bool false) σ) (A.rd (Ya 1 [t5] σ) fun t24=>A.rd (Qa [t24] σ) fun t25=>A.rd (Qb .geq false [t25,jv 0] σ) fun t26=>A.got t26 (Ya 1 [t5] σ) fun t27=>
 A.got t26 (Qa [t27] σ) fun t28=>A.got t26 (Ya 2 [t5] σ) fun t29=>A.got t26 (Qa [t29] σ) fun t30=>A.got t26 (Qb .leq false [t28,t30] σ) fun t31=>
 A.rd (Qc [t26,t31,.bool false] σ) fun t32=>A.got t32 (Ya 2 [t5] σ) fun t33=>A.got t32 (Qa [t33] σ) fun t34=>A.got t32 (Qb .leq false [t34,jv 60] σ) fun t35=>
 A.rd (Qc [t32,t35,.bool false] σ) fun t36=>A.got t36 (Ya 3 [t5] σ) fun t37=>A.got t36 (Qa [t37] σ) fun t38=>A.got t36 (Qb .geq false [t38,jv 0] σ) fun t39=>
 A.rd (Qc [t36,t39,.bool false] σ) fun t40=>A.got t40 (Ya 3 [t5] σ) fun t41=>A.got t40 (Qa [t41] σ) fun t42=>A.got t40 (Qb .leq false [t42,jv 999] σ) fun t43=>
 A.rd (Qc [t40,t43,.bool false] σ) fun t44=>A.got t44 (Ze true 2 [t0] σ) fun t45=>A.got t44 (Ya 4 [t5] σ) fun t46=>A.got t44 (Qa [t46] σ) fun t47=>
 A.gw t44 true (fun k=>A.call (.call 148) [t45,t47] σ k) σ fun t48 σ=>A.rd (Qc [t44,t48,.bool false] σ) fun t49=>A.got t49 (Ze true 2 [t0] σ) fun t50=>
 A.got t49 (Ya 5 [t5] σ) fun t51=>A.got t49 (Qa [t51] σ) fun t52=>A.gw t49 true (fun k=>A.call (.call 148) [t50,t52] σ k) σ fun t53 σ=>A.rd (Qc [t49,t53,.bool false] σ) fun t54=>
 ret t54 σ))) [jv 0] σ
 | _=>A.stop
abbrev n115:List (Option (List Nat)):=[none,some [6],none,none,none,none]
theorem g115_ok:GOk prog GL0 115 2 g115:=gok2 (l:=n115) (by kernel_rfl) fun _ _ _ _ _ _=>by kernel_rfl
def g116:GFun:=fun A xs σ ret=>match xs with
 | [x0]=>
 A.rd (Qb .geq false [x0,jv (-1000000)] σ) fun t0=>A.got t0 (Zj [x0] σ) fun t1=>A.got t0 (Qb .leq false [t1,jv 1000000] σ) fun t2=>A.rd (Qc [t0,t2,.bool false] σ) fun t3=>
 ret t3 σ
 | _=>A.stop
abbrev n116:List (Option (List Nat)):=[]
theorem g116_ok:GOk prog GL0 116 1 g116:=gok1 (l:=n116) (by kernel_rfl) fun _ _ _ _ _=>by kernel_rfl
def g117:GFun:=fun A xs σ ret=>match xs with
 | [x0,x1,x2]=>
 A.wr (Zo [x0] σ) σ fun t0 σ=>A.rd (Qg [x1] σ) fun t1=>A.rd (Qb .gtr false [t1,x2] σ) fun t2=>A.test t2 (ret (.bool false) σ) (A.loop (fun ag3 v4 σ=>
 A.rd (Qg [x1] σ) fun t5=>A.rd (Qb .lss false [(h0 v4),t5] σ) fun t6=>A.test t6 (A.rd (Xd 1 [x1,(h0 v4)] σ) fun t7=>A.rd (Qa [t7] σ) fun t8=>
 A.rd (Qb .lss false [t8,jv 0] σ) fun t9=>A.gof t9 (Zj [x1] σ) fun t10=>A.gof t9 (Zj [(h0 v4)] σ) fun t11=>A.gof t9 (Xd 1 [t10,t11] σ) fun t12=>
 A.gof t9 (Qa [t12] σ) fun t13=>A.gof t9 (Ya 0 [t0] σ) fun t14=>A.gof t9 (Qa [t14] σ) fun t15=>A.gof t9 (Qg [t15] σ) fun t16=>A.gof t9 (Qb .geq false [t13,t16] σ) fun t17=>
 A.rd (Qc [t9,.bool true,t17] σ) fun t18=>A.test t18 (ret (.bool false) σ) (A.rd (Qb .add false [(h0 v4),jv 1] σ) fun t19=>ag3 [t19] σ)) (ret (.bool true) σ)) [jv 0] σ)
 | _=>A.stop
abbrev n117:List (Option (List Nat)):=[none,none,some [7],none,none,none]
theorem g117_ok:GOk prog GL0 117 3 g117:=gok3 (l:=n117) (by kernel_rfl) fun _ _ _ _ _ _ _=>by kernel_rfl
def g118:GFun:=fun A xs σ ret=>match xs with
 | [x0,x1]=>
 A.rd (Qg [x0] σ) fun t0=>A.loop (fun ag1 v2 σ=>A.rd (Qb .lss false [(h0 v2),t0] σ) fun t3=>A.test t3 (A.rd (Xd 4 [x0,(h0 v2)] σ) fun t4=>A.rd (Ze true 4 [t4] σ) fun t5=>
 A.call .callv [x1,t5] σ fun t6 σ=>A.test t6 (ret (h0 v2) σ) (A.rd (Qb .add false [(h0 v2),jv 1] σ) fun t7=>ag1 [t7] σ)) (ret (jv (-1)) σ)) [jv 0] σ
 | _=>A.stop
abbrev n118:List (Option (List Nat)):=[none,some [8],none,none,none]
theorem g118_ok:GOk prog GL0 118 2 g118:=gok2 (l:=n118) (by kernel_rfl) fun _ _ _ _ _ _=>by kernel_rfl
def g119:GFun:=fun A xs σ ret=>match xs with
 | [x0,x1]=>
 A.wr (Zo [x0] σ) σ fun t0 σ=>A.rd (Ya 0 [t0] σ) fun t1=>A.rd (Qa [t1] σ) fun t2=>A.rd (Qa [x1] σ) fun t3=>A.rd (Qb .eql false [t2,t3] σ) fun t4=>
 ret t4 σ
 | _=>A.stop
abbrev n119:List (Option (List Nat)):=[]
theorem g119_ok:GOk prog GL0 119 2 g119:=gok2 (l:=n119) (by kernel_rfl) fun _ _ _ _ _ _=>by kernel_rfl
def g120:GFun:=fun A xs σ ret=>match xs with
 | [x0,x1]=>
 A.rd (Qg [x0] σ) fun t0=>A.loop (fun ag1 v2 σ=>A.rd (Qb .lss false [(h0 v2),t0] σ) fun t3=>A.test t3 (A.rd (Xd 1 [x0,(h0 v2)] σ) fun t4=>A.rd (Qa [t4] σ) fun t5=>
 A.call .callv [x1,t5] σ fun t6 σ=>A.test t6 (ret (h0 v2) σ) (A.rd (Qb .add false [(h0 v2),jv 1] σ) fun t7=>ag1 [t7] σ)) (ret (jv (-1)) σ)) [jv 0] σ
 | _=>A.stop
abbrev n120:List (Option (List Nat)):=[none,some [8],none,none,none]
theorem g120_ok:GOk prog GL0 120 2 g120:=gok2 (l:=n120) (by kernel_rfl) fun _ _ _ _ _ _=>by kernel_rfl
def g121:GFun:=fun A xs σ ret=>match xs with
 | [x0]=>
 A.rd (Qb .eql false [x0,.int .i8 0] σ) fun t0=>A.gof t0 (Zj [x0] σ) fun t1=>A.gof t0 (Qb .eql false [t1,.int .i8 1] σ) fun t2=>A.rd (Qc [t0,.bool true,t2] σ) fun t3=>
 ret t3 σ
 | _=>A.stop
abbrev n121:List (Option (List Nat)):=[]
theorem g121_ok:GOk prog GL0 121 1 g121:=gok1 (l:=n121) (by kernel_rfl) fun _ _ _ _ _=>by kernel_rfl
def g122:GFun:=fun A xs σ ret=>match xs with
 | [x0]=>
 A.wr (Yf [.nils,.nils] [] σ) σ fun t0 σ=>A.wr (Yf [jv 0,jv 0] [] σ) σ fun t1 σ=>A.call (.call 149) [x0] σ fun t2 σ=>A.rd (Qe 0 [t2] σ) fun t3=>
 A.rd (Qe 1 [t2] σ) fun t4=>A.wr (Yf [jv 0,jv 0] [] σ) σ fun t5 σ=>A.wr (Zc 2 [t5,t4] σ) σ fun _ σ=>A.rd (Ya 0 [t5] σ) fun t6=>
 A.rd (Qa [t6] σ) fun t7=>A.rd (Qb .neq false [t7,jv 0] σ) fun t8=>A.test t8 (A.pu (Xg [.nils,.nils] [] [] σ) fun t9=>A.dr (Ze true 2 [t5] σ) σ fun t10 l11 σ=>
 A.dr (Zc 2 [t0,t9] σ) σ fun _ l12 σ=>A.dr (Zc 2 [t1,t10] σ) σ fun _ l13 σ=>A.gd (Xk [[],[],[0],[0,1,2]] [([],[]),l11,l12,l13]) <| A.opt (cellV true 2 t0 σ) fun r14=>
 A.opt (cellV true 2 t1 σ) fun r15=>ret (.tup [r14,r15]) σ) (A.rd (Xg [.nils,jv 0,jv 0,jv 0,jv 0] [(0,1)] [t3] σ) fun t16=>A.wr (Zo [t16] σ) σ fun t17 σ=>
 A.wr (Yf [.nils,.nils] [] σ) σ fun t18 σ=>joinK (fun k19=>A.loop (fun ag21 v22 σ=>A.dcall (.call 150) [t17] σ fun t23 l24 σ=>A.gr t23 true (fun k=>A.pu (Zj [t17] σ) k) fun t25=>
 A.gr t23 true (fun k=>A.pu (Xb [t25] σ) k) fun t26=>A.gr t23 true (fun k=>A.pu (Ya 0 [t26] σ) k) fun t27=>A.gl t23 true (fun k=>A.dr (Qa [t27] σ) σ k) σ fun t28 l29 σ=>
 A.gr t23 true (fun k=>A.pu (Zj [t17] σ) k) fun t30=>A.gr t23 true (fun k=>A.pu (Xb [t30] σ) k) fun t31=>A.gr t23 true (fun k=>A.pu (Ya 1 [t31] σ) k) fun t32=>
 A.gl t23 true (fun k=>A.dr (Qa [t32] σ) σ k) σ fun t33 l34 σ=>A.gl t23 true (fun k=>A.dr (Xd 4 [t28,t33] σ) σ k) σ fun t35 l36 σ=>A.gr t23 true (fun k=>A.pu (Ya 0 [t35] σ) k) fun t37=>
 A.gl t23 true (fun k=>A.dr (Qa [t37] σ) σ k) σ fun t38 l39 σ=>A.gr t23 true (fun k=>A.pu (Qb .neq false [t38,.int .i8 0] σ) k) fun t40=>A.pu (Qc [t23,t40,.bool false] σ) fun t41=>
 A.gd (Xk [[],[0],[0,1],[0,1,2],[0,1,2,3],[0,1,2,3,4],[0,1,2,3,4,5],[0,1,2],[0,1,2,7],[0,1,2,7,8],[0,1,2,7,8,9],[0,1,2,3,4,5,6,7,8,9,10],[0,1,2,3,4,5,6,7,8,9,10,11],[0,1,2,3,4,5,6,7,8,9,10,11,12],[0,1,2,3,4,5,6,7,8,9,10,11,12,13],[0,1,2,3,4,5,6,7,8,9,10,11,12,13,14]] [([],[]),l24,([],[]),([],[]),([],[]),([],[]),l29,([],[]),([],[]),([],[]),l34,l36,([],[]),l39,([],[]),([],[])]) <|
 A.test t41 (A.rd (Xb [t17] σ) fun t42=>A.rd (Ya 0 [t42] σ) fun t43=>A.rd (Qa [t43] σ) fun t44=>A.rd (Xb [t17] σ) fun t45=>A.rd (Ya 1 [t45] σ) fun t46=>
 A.rd (Qa [t46] σ) fun t47=>A.rd (Xd 4 [t44,t47] σ) fun t48=>A.rd (Ya 3 [t48] σ) fun t49=>A.rd (Qa [t49] σ) fun t50=>A.call (.call 151) [t17,(.str [99,97,114,100])] σ fun t51 σ=>
 A.got t51 (Ya 1 [t18] σ) fun t52=>A.got t51 (Qa [t52] σ) fun t53=>A.got t51 (Qg [t53] σ) fun t54=>A.got t51 (Qb .gtr false [t54,jv 0] σ) fun t55=>
 A.rd (Qc [t51,t55,.bool false] σ) fun t56=>A.gof t56 (Zj [t51] σ) fun t57=>A.gof t56 (Yp .not [t57] σ) fun t58=>A.gof t56 (Zj [t58] σ) fun t59=>
 A.got t59 (Zj [t17] σ) fun t60=>A.gw t59 true (fun k=>A.call (.call 151) [t60,(.str [102,111,114,109,97,116])] σ k) σ fun t61 σ=>A.got t59 (Yp .not [t61] σ) fun t62=>
 A.gof t56 (Qc [t59,t62,.bool false] σ) fun t63=>A.rd (Qc [t56,.bool true,t63] σ) fun t64=>A.test t64 (A.call (.call 152) [t17,jv 120] σ fun t65 σ=>
 k19 [] σ) (A.got t51 (Ya 0 [t18] σ) fun t66=>A.got t51 (Qa [t66] σ) fun t67=>A.got t51 (Qg [t67] σ) fun t68=>A.got t51 (Qb .geq false [t68,jv 240] σ) fun t69=>
 A.rd (Qc [t51,t69,.bool false] σ) fun t70=>A.gof t70 (Zj [t51] σ) fun t71=>A.gof t70 (Yp .not [t71] σ) fun t72=>A.gof t70 (Zj [t72] σ) fun t73=>
 A.got t73 (Ya 1 [t18] σ) fun t74=>A.got t73 (Qa [t74] σ) fun t75=>A.got t73 (Qg [t75] σ) fun t76=>A.got t73 (Qb .geq false [t76,jv 240] σ) fun t77=>
 A.gof t70 (Qc [t73,t77,.bool false] σ) fun t78=>A.rd (Qc [t70,.bool true,t78] σ) fun t79=>A.test t79 (A.call (.call 152) [t17,jv 3] σ fun t80 σ=>
 k19 [] σ) (A.rd (Xb [t17] σ) fun t81=>A.rd (Ya 1 [t81] σ) fun t82=>A.rd (Qa [t82] σ) fun t83=>A.rd (Qb .add false [t83,jv 1] σ) fun t84=>
 A.rd (Xb [t17] σ) fun t85=>A.rd (Ya 1 [t85] σ) fun t86=>A.wr (Zc 1 [t86,t84] σ) σ fun _ σ=>A.test t51 (A.call (.call 153) [t17,t50] σ fun t87 σ=>
 A.wr (Yf [.str [],.bool false,jv 0,jv 0,jv 0,jv 0,jv 0,jv 0,.nils,.nils,.nils,jv 0] [] σ) σ fun t88 σ=>A.wr (Zc 12 [t88,t87] σ) σ fun _ σ=>
 A.rd (Ya 0 [t18] σ) fun t89=>A.rd (Qa [t89] σ) fun t90=>A.rd (Ze true 12 [t88] σ) fun t91=>A.wr (Yl 12 1 [.str [],.bool false,jv 0,jv 0,jv 0,jv 0,jv 0,jv 0,.nils,.nils,.nils,jv 0] [(0,12)] [t91] σ) σ fun t92 σ=>
 A.wr (Yk 12 152 [t90,t92] σ) σ fun t93 σ=>A.rd (Ya 0 [t18] σ) fun t94=>A.wr (Zc 1 [t94,t93] σ) σ fun _ σ=>ag21 [] σ) (A.call (.call 154) [t17,t50] σ fun t95 σ=>
 A.wr (Yf [.str [],jv 0,jv 0,jv 0,.nils,.nils,jv 0] [] σ) σ fun t96 σ=>A.wr (Zc 7 [t96,t95] σ) σ fun _ σ=>A.rd (Ya 1 [t18] σ) fun t97=>
 A.rd (Qa [t97] σ) fun t98=>A.rd (Ze true 7 [t96] σ) fun t99=>A.wr (Yl 7 1 [.str [],jv 0,jv 0,jv 0,.nils,.nils,jv 0] [(0,7)] [t99] σ) σ fun t100 σ=>
 A.wr (Yk 7 96 [t98,t100] σ) σ fun t101 σ=>A.rd (Ya 1 [t18] σ) fun t102=>A.wr (Zc 1 [t102,t101] σ) σ fun _ σ=>ag21 [] σ)))) (k19 [] σ)) [] σ) (fun v20 σ=>
 A.call (.call 150) [t17] σ fun t103 σ=>A.rd (Yp .not [t103] σ) fun t104=>A.test t104 (A.pu (Xg [.nils,.nils] [] [] σ) fun t105=>A.pu (Xb [t17] σ) fun t106=>
 A.pu (Ya 3 [t106] σ) fun t107=>A.dr (Ze true 2 [t107] σ) σ fun t108 l109 σ=>A.dr (Zc 2 [t0,t105] σ) σ fun _ l110 σ=>A.dr (Zc 2 [t1,t108] σ) σ fun _ l111 σ=>
 A.gd (Xk [[],[],[1],[1,2],[1,2,3],[0],[0,1,2,3,4,5]] [([],[]),([],[]),([],[]),([],[]),l109,l110,l111]) <| A.opt (cellV true 2 t0 σ) fun r112=>
 A.opt (cellV true 2 t1 σ) fun r113=>ret (.tup [r112,r113]) σ) (A.rd (Ze true 2 [t18] σ) fun t114=>A.rd (Xg [jv 0,jv 0] [] [] σ) fun t115=>A.wr (Zc 2 [t0,t114] σ) σ fun _ σ=>
 A.wr (Zc 2 [t1,t115] σ) σ fun _ σ=>A.opt (cellV true 2 t0 σ) fun r116=>A.opt (cellV true 2 t1 σ) fun r117=>ret (.tup [r116,r117]) σ)))
 | _=>A.stop
abbrev n122:List (Option (List Nat)):=[none,some [],some [],none,none,none,none,none,none]
theorem g122_ok:GOk prog GL0 122 1 g122:=gok1 (l:=n122) (by kernel_rfl) fun _ _ _ _ _=>by kernel_rfl
def g124:GFun:=fun A xs σ ret=>match xs with
 | [x0]=>
 A.wr (Zo [x0] σ) σ fun t0 σ=>A.wr (Yf [jv 0] [] σ) σ fun t1 σ=>A.wr (Zc 1 [t1,jv 0] σ) σ fun _ σ=>A.rd (Zp (.func 156) 0 [t1] σ) fun t2=>
 A.call (.call 155) [t0,t2] σ fun t3 σ=>A.rd (Qa [t1] σ) fun t4=>ret t4 σ
 | _=>A.stop
abbrev n124:List (Option (List Nat)):=[]
theorem g124_ok:GOk prog GL0 124 1 g124:=gok1 (l:=n124) (by kernel_rfl) fun _ _ _ _ _=>by kernel_rfl
def g130:GFun:=fun A xs σ ret=>match xs with
 | [x0]=>
 A.rd (Qb .eql false [x0,.int .i8 0] σ) fun t0=>A.gof t0 (Zj [x0] σ) fun t1=>A.gof t0 (Qb .eql false [t1,.int .i8 1] σ) fun t2=>A.rd (Qc [t0,.bool true,t2] σ) fun t3=>
 A.gof t3 (Zj [x0] σ) fun t4=>A.gof t3 (Qb .eql false [t4,.int .i8 2] σ) fun t5=>A.rd (Qc [t3,.bool true,t5] σ) fun t6=>A.gof t6 (Zj [x0] σ) fun t7=>
 A.gof t6 (Qb .eql false [t7,.int .i8 3] σ) fun t8=>A.rd (Qc [t6,.bool true,t8] σ) fun t9=>A.gof t9 (Zj [x0] σ) fun t10=>A.gof t9 (Qb .eql false [t10,.int .i8 5] σ) fun t11=>
 A.rd (Qc [t9,.bool true,t11] σ) fun t12=>ret t12 σ
 | _=>A.stop
abbrev n130:List (Option (List Nat)):=[]
theorem g130_ok:GOk prog GL0 130 1 g130:=gok1 (l:=n130) (by kernel_rfl) fun _ _ _ _ _=>by kernel_rfl
def g142:GFun:=fun A xs σ ret=>match xs with
 | [x0]=>
 A.loop (fun ag0 v1 σ=>A.rd (Qg [x0] σ) fun t2=>A.rd (Qb .lss false [(h0 v1),t2] σ) fun t3=>A.test t3 (joinK (fun k4=>A.rd (Qb .add false [(h1 v1),jv 1] σ) fun t6=>
 A.rd (ZX [t6,jv 1073741824] σ) fun t7=>A.rd (Xd 14 [x0,(h0 v1)] σ) fun t8=>A.rd (Ya 0 [t8] σ) fun t9=>A.rd (Qa [t9] σ) fun t10=>
 A.call (.call 130) [t10] σ fun t11 σ=>joinK (fun k12=>A.test t11 (A.rd (Xd 14 [x0,(h0 v1)] σ) fun t14=>A.rd (Ya 2 [t14] σ) fun t15=>A.rd (Ze true 4 [t15] σ) fun t16=>
 A.call (.call 76) [t16] σ fun t17 σ=>A.rd (Qb .add false [t7,t17] σ) fun t18=>A.rd (ZX [t18,jv 1073741824] σ) fun t19=>k12 [t19] σ) (k12 [t7] σ)) (fun v13 σ=>
 A.rd (Xd 14 [x0,(h0 v1)] σ) fun t20=>A.rd (Ya 0 [t20] σ) fun t21=>A.rd (Qa [t21] σ) fun t22=>A.rd (Qb .eql false [t22,.int .i8 8] σ) fun t23=>
 A.test t23 (A.dr (Xd 14 [x0,(h0 v1)] σ) σ fun t24 l25 σ=>A.pu (Ya 7 [t24] σ) fun t26=>A.dr (Ze true 5 [t26] σ) σ fun t27 l28 σ=>A.dcall (.call 178) [t27] σ fun t29 l30 σ=>
 A.pu (Qb .add false [(h0 v13),t29] σ) fun t31=>A.dr (Xd 14 [x0,(h0 v1)] σ) σ fun t32 l33 σ=>A.pu (Ya 12 [t32] σ) fun t34=>A.dr (Qa [t34] σ) σ fun t35 l36 σ=>
 A.dcall (.call 142) [t35] σ fun t37 l38 σ=>A.pu (Qb .add false [t31,t37] σ) fun t39=>A.dr (Xd 14 [x0,(h0 v1)] σ) σ fun t40 l41 σ=>A.pu (Ya 13 [t40] σ) fun t42=>
 A.dr (Qa [t42] σ) σ fun t43 l44 σ=>A.dcall (.call 142) [t43] σ fun t45 l46 σ=>A.pu (Qb .add false [t39,t45] σ) fun t47=>A.pu (ZX [t47,jv 1073741824] σ) fun t48=>
 A.gd (Xk [[],[],[],[1,2],[1,2,3],[1,2,3,4],[1,2,3,4,5],[0,1,2,3,4,5,6],[],[],[8,9],[8,9,10],[8,9,10,11],[1,2,3,4,5,6,8,9,10,11,12],[0,1,2,3,4,5,6,7,8,9,10,11,12,13],[],[],[15,16],[15,16,17],[15,16,17,18],[1,2,3,4,5,6,8,9,10,11,12,13,15,16,17,18,19],[0,1,2,3,4,5,6,7,8,9,10,11,12,13,14,15,16,17,18,19,20],[0,1,2,3,4,5,6,7,8,9,10,11,12,13,14,15,16,17,18,19,20,21],[0,1,2,3,4,5,6,7,8,9,10,11,12,13,14,15,16,17,18,19,20,21,22]] [([],[]),([],[]),([],[]),l25,([],[]),l28,l30,([],[]),([],[]),([],[]),l33,([],[]),l36,l38,([],[]),([],[]),([],[]),l41,([],[]),l44,l46,([],[]),([],[]),([],[])]) <|
 k4 [t48] σ) (k4 [(h0 v13)] σ))) (fun v5 σ=>A.rd (Qb .add false [(h0 v1),jv 1] σ) fun t49=>ag0 [t49,(h0 v5)] σ)) (ret (h1 v1) σ)) [jv 0,jv 0] σ
 | _=>A.stop
abbrev n142:List (Option (List Nat)):=[none,some [4,3],none,some [3],some [3],none]
theorem g142_ok:GOk prog GL0 142 1 g142:=gok1 (l:=n142) (by kernel_rfl) fun _ _ _ _ _=>by kernel_rfl
def g143:GFun:=fun A xs σ ret=>match xs with
 | [x0]=>
 A.wr (Zo [x0] σ) σ fun t0 σ=>A.wr (Yf [jv 0,jv 0] [] σ) σ fun t1 σ=>A.rd (Zp (.func 179) 0 [t0] σ) fun t2=>A.rd (Zp (.func 181) 0 [t0] σ) fun t3=>
 A.rd (Zp (.func 183) 0 [t0] σ) fun t4=>A.rd (Xg [.nilf,.nilf,.nilf] [(0,1),(1,1),(2,1)] [t2,t3,t4] σ) fun t5=>A.loop (fun ag6 v7 σ=>A.rd (Qb .lss false [(h0 v7),jv 3] σ) fun t8=>
 A.test t8 (A.rd (Y3 false 3 1 [t5,(h0 v7)] σ) fun t9=>A.call .callv [t9] σ fun t10 σ=>A.wr (Yf [jv 0,jv 0] [] σ) σ fun t11 σ=>A.wr (Zc 2 [t11,t10] σ) σ fun _ σ=>
 A.rd (Ya 0 [t11] σ) fun t12=>A.rd (Qa [t12] σ) fun t13=>A.rd (Qb .neq false [t13,jv 0] σ) fun t14=>A.test t14 (A.rd (Ze true 2 [t11] σ) fun t15=>
 A.wr (Zc 2 [t1,t15] σ) σ fun _ σ=>A.opt (cellV true 2 t1 σ) fun r16=>ret r16 σ) (A.rd (Qb .add false [(h0 v7),jv 1] σ) fun t17=>ag6 [t17] σ)) (A.rd (Xg [jv 0,jv 0] [] [] σ) fun t18=>
 A.wr (Zc 2 [t1,t18] σ) σ fun _ σ=>A.opt (cellV true 2 t1 σ) fun r19=>ret r19 σ)) [jv 0] σ
 | _=>A.stop
abbrev n143:List (Option (List Nat)):=[none,some [10],none,none,none]
theorem g143_ok:GOk prog GL0 143 1 g143:=gok1 (l:=n143) (by kernel_rfl) fun _ _ _ _ _=>by kernel_rfl
def g144:GFun:=fun A xs σ ret=>match xs with
 | [x0,x1,x2,x3]=>
 A.wr (Zo [x0] σ) σ fun t0 σ=>A.rd (Xb [x1] σ) fun t1=>A.rd (Ya 7 [t1] σ) fun t2=>A.rd (Yi 2 8 [t2,x2] σ) fun t3=>A.rd (Xb [t3] σ) fun t4=>
 A.rd (Ya 0 [t4] σ) fun t5=>A.rd (Qa [t5] σ) fun t6=>A.call (.call 57) [t6] σ fun t7 σ=>A.rd (Yp .not [t7] σ) fun t8=>A.gof t8 (Zj [t3] σ) fun t9=>
 A.gof t8 (Xb [t9] σ) fun t10=>A.gof t8 (Ya 1 [t10] σ) fun t11=>A.gof t8 (Qa [t11] σ) fun t12=>A.gof t8 (Qb .lss false [t12,jv 0] σ) fun t13=>
 A.rd (Qc [t8,.bool true,t13] σ) fun t14=>A.gof t14 (Zj [t3] σ) fun t15=>A.gof t14 (Xb [t15] σ) fun t16=>A.gof t14 (Ya 1 [t16] σ) fun t17=>
 A.gof t14 (Qa [t17] σ) fun t18=>A.gw t14 false (fun k=>A.call (.call 57) [t18] σ k) σ fun t19 σ=>A.gof t14 (Yp .not [t19] σ) fun t20=>A.rd (Qc [t14,.bool true,t20] σ) fun t21=>
 A.gof t21 (Zj [t3] σ) fun t22=>A.gof t21 (Xb [t22] σ) fun t23=>A.gof t21 (Ya 2 [t23] σ) fun t24=>A.gof t21 (Qa [t24] σ) fun t25=>A.gof t21 (Qb .lss false [t25,jv 0] σ) fun t26=>
 A.rd (Qc [t21,.bool true,t26] σ) fun t27=>A.gof t27 (Zj [t3] σ) fun t28=>A.gof t27 (Xb [t28] σ) fun t29=>A.gof t27 (Ya 2 [t29] σ) fun t30=>
 A.gof t27 (Qa [t30] σ) fun t31=>A.gof t27 (Qb .gtr false [t31,jv 10] σ) fun t32=>A.rd (Qc [t27,.bool true,t32] σ) fun t33=>A.gof t33 (Zj [t3] σ) fun t34=>
 A.gof t33 (Xb [t34] σ) fun t35=>A.gof t33 (Ya 6 [t35] σ) fun t36=>A.gof t33 (Qa [t36] σ) fun t37=>A.gof t33 (Qg [t37] σ) fun t38=>
 A.gof t33 (Qb .gtr false [t38,jv 7] σ) fun t39=>A.rd (Qc [t33,.bool true,t39] σ) fun t40=>A.test t40 (ret (.bool false) σ) (A.rd (Xb [t3] σ) fun t41=>
 A.rd (Ya 3 [t41] σ) fun t42=>A.rd (Qa [t42] σ) fun t43=>A.rd (Xg [.nils,jv 0] [(0,1),(1,1)] [t43,jv 60] σ) fun t44=>A.rd (Xb [t3] σ) fun t45=>
 A.rd (Ya 4 [t45] σ) fun t46=>A.rd (Qa [t46] σ) fun t47=>A.rd (Xg [.nils,jv 0] [(0,1),(1,1)] [t47,jv 10] σ) fun t48=>A.rd (Xb [t3] σ) fun t49=>
 A.rd (Ya 5 [t49] σ) fun t50=>A.rd (Qa [t50] σ) fun t51=>A.rd (Xg [.nils,jv 0] [(0,1),(1,1)] [t51,jv 1000000] σ) fun t52=>A.rd (Xb [t3] σ) fun t53=>
 A.rd (Ya 7 [t53] σ) fun t54=>A.rd (Qa [t54] σ) fun t55=>A.rd (Xg [.nils,jv 0] [(0,1),(1,1)] [t55,jv 1000000] σ) fun t56=>A.rd (Xg [.nils,jv 0,.nils,jv 0,.nils,jv 0,.nils,jv 0] [(0,2),(2,2),(4,2),(6,2)] [t44,t48,t52,t56] σ) fun t57=>
 A.loop (fun ag58 v59 σ=>A.rd (Qb .lss false [(h0 v59),jv 4] σ) fun t60=>A.test t60 (A.rd (Y3 true 4 2 [t57,(h0 v59)] σ) fun t61=>A.wr (Yf [.nils,jv 0] [] σ) σ fun t62 σ=>
 A.wr (Zc 2 [t62,t61] σ) σ fun _ σ=>A.rd (Ya 0 [t62] σ) fun t63=>A.rd (Qa [t63] σ) fun t64=>A.rd (Qg [t64] σ) fun t65=>A.rd (Ya 1 [t62] σ) fun t66=>
 A.rd (Qa [t66] σ) fun t67=>A.rd (Qb .gtr false [t65,t67] σ) fun t68=>A.gof t68 (Ya 0 [t62] σ) fun t69=>A.gof t68 (Qa [t69] σ) fun t70=>
 A.gof t68 (Zp (.func 186) 0 [t0] σ) fun t71=>A.gw t68 false (fun k=>A.call (.call 185) [t70,t71] σ k) σ fun t72 σ=>A.rd (Qc [t68,.bool true,t72] σ) fun t73=>
 A.test t73 (ret (.bool false) σ) (A.rd (Qb .add false [(h0 v59),jv 1] σ) fun t74=>ag58 [t74] σ)) (A.rd (Xb [t3] σ) fun t75=>A.rd (Ya 6 [t75] σ) fun t76=>
 A.rd (Qa [t76] σ) fun t77=>A.rd (Qg [t77] σ) fun t78=>A.loop (fun ag79 v80 σ=>A.rd (Qb .lss false [(h0 v80),t78] σ) fun t81=>A.test t81 (A.rd (Xd 4 [t77,(h0 v80)] σ) fun t82=>
 A.rd (Ze true 4 [t82] σ) fun t83=>A.wr (Yf zq4 [] σ) σ fun t84 σ=>A.wr (Zc 4 [t84,t83] σ) σ fun _ σ=>A.rd (Ya 0 [t84] σ) fun t85=>A.rd (Qa [t85] σ) fun t86=>
 A.rd (Xt false true (jv 0) [x3,t86] σ) fun t87=>A.rd (Qe 0 [t87] σ) fun t88=>A.rd (Qe 1 [t87] σ) fun t89=>A.gof t89 (Ya 1 [t84] σ) fun t90=>
 A.gof t89 (Qa [t90] σ) fun t91=>A.gof t89 (Qb .lss false [t91,jv 0] σ) fun t92=>A.rd (Qc [t89,.bool true,t92] σ) fun t93=>A.gof t93 (Ya 1 [t84] σ) fun t94=>
 A.gof t93 (Qa [t94] σ) fun t95=>A.gof t93 (Qa [t0] σ) fun t96=>A.gof t93 (Xb [t96] σ) fun t97=>A.gof t93 (Ya 0 [t97] σ) fun t98=>
 A.gof t93 (Qa [t98] σ) fun t99=>A.gof t93 (Qg [t99] σ) fun t100=>A.gof t93 (Qb .geq false [t95,t100] σ) fun t101=>A.rd (Qc [t93,.bool true,t101] σ) fun t102=>
 A.gof t102 (Qa [t0] σ) fun t103=>A.gof t102 (Xb [t103] σ) fun t104=>A.gof t102 (Ya 0 [t104] σ) fun t105=>A.gof t102 (Qa [t105] σ) fun t106=>
 A.gof t102 (Ya 1 [t84] σ) fun t107=>A.gof t102 (Qa [t107] σ) fun t108=>A.gof t102 (Xd 12 [t106,t108] σ) fun t109=>A.gof t102 (Ya 1 [t109] σ) fun t110=>
 A.gof t102 (Qa [t110] σ) fun t111=>A.gof t102 (Yp .not [t111] σ) fun t112=>A.rd (Qc [t102,.bool true,t112] σ) fun t113=>A.gof t113 (Ya 2 [t84] σ) fun t114=>
 A.gof t113 (Qa [t114] σ) fun t115=>A.gof t113 (Qb .lss false [t115,jv 0] σ) fun t116=>A.rd (Qc [t113,.bool true,t116] σ) fun t117=>A.gof t117 (Ya 2 [t84] σ) fun t118=>
 A.gof t117 (Qa [t118] σ) fun t119=>A.gof t117 (Qb .gtr false [t119,jv 1000000] σ) fun t120=>A.rd (Qc [t117,.bool true,t120] σ) fun t121=>A.gof t121 (Ya 0 [t84] σ) fun t122=>
 A.gof t121 (Qa [t122] σ) fun t123=>A.gof t121 (Qb .lss false [t123,jv 1] σ) fun t124=>A.rd (Qc [t121,.bool true,t124] σ) fun t125=>A.gof t125 (Ya 0 [t84] σ) fun t126=>
 A.gof t125 (Qa [t126] σ) fun t127=>A.gof t125 (Zj [x1] σ) fun t128=>A.gof t125 (Xb [t128] σ) fun t129=>A.gof t125 (Ya 6 [t129] σ) fun t130=>
 A.gof t125 (Qa [t130] σ) fun t131=>A.gof t125 (Qb .geq false [t127,t131] σ) fun t132=>A.rd (Qc [t125,.bool true,t132] σ) fun t133=>A.test t133 (
 ret (.bool false) σ) (A.rd (Ya 0 [t84] σ) fun t134=>A.rd (Qa [t134] σ) fun t135=>A.wr (ZA false [x3,t135,x2] σ) σ fun _ σ=>A.rd (Qb .add false [(h0 v80),jv 1] σ) fun t136=>
 ag79 [t136] σ)) (ret (.bool true) σ)) [jv 0] σ)) [jv 0] σ)
 | _=>A.stop
abbrev n144:List (Option (List Nat)):=[none,none,some [85],none,none,none,none,some [106],none,none,none]
theorem g144_ok:GOk prog GL0 144 4 g144:=gok4 (l:=n144) (by kernel_rfl) fun _ _ _ _ _ _ _ _=>by kernel_rfl
def g145:GFun:=fun A xs σ ret=>match xs with
 | [x0,x1]=>
 A.wr (Zo [x1] σ) σ fun t0 σ=>A.rd (Ya 0 [t0] σ) fun t1=>A.rd (Qa [t1] σ) fun t2=>A.call (.call 147) [t2] σ fun t3 σ=>A.rd (Yp .not [t3] σ) fun t4=>
 A.gof t4 (Ya 2 [t0] σ) fun t5=>A.gof t4 (Qa [t5] σ) fun t6=>A.gw t4 false (fun k=>A.call (.call 187) [t6] σ k) σ fun t7 σ=>A.gof t4 (Yp .not [t7] σ) fun t8=>
 A.rd (Qc [t4,.bool true,t8] σ) fun t9=>A.gof t9 (Ya 3 [t0] σ) fun t10=>A.gof t9 (Qa [t10] σ) fun t11=>A.gw t9 false (fun k=>A.call (.call 187) [t11] σ k) σ fun t12 σ=>
 A.gof t9 (Yp .not [t12] σ) fun t13=>A.rd (Qc [t9,.bool true,t13] σ) fun t14=>A.gof t14 (Ya 4 [t0] σ) fun t15=>A.gof t14 (Qa [t15] σ) fun t16=>
 A.gw t14 false (fun k=>A.call (.call 187) [t16] σ k) σ fun t17 σ=>A.gof t14 (Yp .not [t17] σ) fun t18=>A.rd (Qc [t14,.bool true,t18] σ) fun t19=>
 A.gof t19 (Ya 5 [t0] σ) fun t20=>A.gof t19 (Qa [t20] σ) fun t21=>A.gw t19 false (fun k=>A.call (.call 187) [t21] σ k) σ fun t22 σ=>A.gof t19 (Yp .not [t22] σ) fun t23=>
 A.rd (Qc [t19,.bool true,t23] σ) fun t24=>A.gof t24 (Ya 6 [t0] σ) fun t25=>A.gof t24 (Qa [t25] σ) fun t26=>A.gw t24 false (fun k=>A.call (.call 187) [t26] σ k) σ fun t27 σ=>
 A.gof t24 (Yp .not [t27] σ) fun t28=>A.rd (Qc [t24,.bool true,t28] σ) fun t29=>A.gof t29 (Ya 7 [t0] σ) fun t30=>A.gof t29 (Qa [t30] σ) fun t31=>
 A.gw t29 false (fun k=>A.call (.call 187) [t31] σ k) σ fun t32 σ=>A.gof t29 (Yp .not [t32] σ) fun t33=>A.rd (Qc [t29,.bool true,t33] σ) fun t34=>
 A.test t34 (ret (.bool false) σ) (A.rd (Ya 1 [t0] σ) fun t35=>A.rd (Qa [t35] σ) fun t36=>A.got t36 (Ya 4 [t0] σ) fun t37=>A.got t36 (Qa [t37] σ) fun t38=>
 A.got t36 (Qb .lss false [t38,jv 1] σ) fun t39=>A.rd (Qc [t36,t39,.bool false] σ) fun t40=>A.gof t40 (Ya 1 [t0] σ) fun t41=>A.gof t40 (Qa [t41] σ) fun t42=>
 A.gof t40 (Yp .not [t42] σ) fun t43=>A.gof t40 (Zj [t43] σ) fun t44=>A.got t44 (Ya 3 [t0] σ) fun t45=>A.got t44 (Qa [t45] σ) fun t46=>A.got t44 (Ya 4 [t0] σ) fun t47=>
 A.got t44 (Qa [t47] σ) fun t48=>A.got t44 (Qb .add false [t46,t48] σ) fun t49=>A.got t44 (Ya 5 [t0] σ) fun t50=>A.got t44 (Qa [t50] σ) fun t51=>
 A.got t44 (Qb .add false [t49,t51] σ) fun t52=>A.got t44 (Ya 6 [t0] σ) fun t53=>A.got t44 (Qa [t53] σ) fun t54=>A.got t44 (Qb .add false [t52,t54] σ) fun t55=>
 A.got t44 (Ya 7 [t0] σ) fun t56=>A.got t44 (Qa [t56] σ) fun t57=>A.got t44 (Qb .add false [t55,t57] σ) fun t58=>A.got t44 (Qb .gtr false [t58,jv 0] σ) fun t59=>
 A.got t44 (Zj [t59] σ) fun t60=>A.gof t60 (Ya 9 [t0] σ) fun t61=>A.gof t60 (Qa [t61] σ) fun t62=>A.gof t60 (Qg [t62] σ) fun t63=>A.gof t60 (Ya 10 [t0] σ) fun t64=>
 A.gof t60 (Qa [t64] σ) fun t65=>A.gof t60 (Qg [t65] σ) fun t66=>A.gof t60 (Qb .add false [t63,t66] σ) fun t67=>A.gof t60 (Qb .gtr false [t67,jv 0] σ) fun t68=>
 A.got t44 (Qc [t60,.bool true,t68] σ) fun t69=>A.gof t40 (Qc [t44,t69,.bool false] σ) fun t70=>A.rd (Qc [t40,.bool true,t70] σ) fun t71=>
 A.test t71 (ret (.bool false) σ) (A.rd (Ze true 12 [t0] σ) fun t72=>A.call (.call 110) [t72] σ fun t73 σ=>A.rd (Qb .gtr false [t73,jv 200] σ) fun t74=>
 A.test t74 (ret (.bool false) σ) (A.rd (Xg [.nils,.bool false] [(0,1),(1,1)] [x0,.bool true] σ) fun t75=>A.wr (Zo [t75] σ) σ fun t76 σ=>A.rd (Xg [.nils,.bool false] [(0,1)] [x0] σ) fun t77=>
 A.wr (Zo [t77] σ) σ fun t78 σ=>A.rd (Ya 8 [t0] σ) fun t79=>A.rd (Qa [t79] σ) fun t80=>A.call (.call 188) [t76,t80,jv 1] σ fun t81 σ=>A.got t81 (Zj [t78] σ) fun t82=>
 A.got t81 (Ya 9 [t0] σ) fun t83=>A.got t81 (Qa [t83] σ) fun t84=>A.gw t81 true (fun k=>A.call (.call 188) [t82,t84,jv 1] σ k) σ fun t85 σ=>
 A.rd (Qc [t81,t85,.bool false] σ) fun t86=>A.got t86 (Zj [t78] σ) fun t87=>A.got t86 (Ya 10 [t0] σ) fun t88=>A.got t86 (Qa [t88] σ) fun t89=>
 A.gw t86 true (fun k=>A.call (.call 188) [t87,t89,jv 1] σ k) σ fun t90 σ=>A.rd (Qc [t86,t90,.bool false] σ) fun t91=>ret t91 σ)))
 | _=>A.stop
abbrev n145:List (Option (List Nat)):=[none,none,none]
theorem g145_ok:GOk prog GL0 145 2 g145:=gok2 (l:=n145) (by kernel_rfl) fun _ _ _ _ _ _=>by kernel_rfl
def g146:GFun:=fun A xs σ ret=>match xs with
 | [x0,x1]=>
 A.loop (fun ag0 v1 σ=>A.rd (Qg [x1] σ) fun t2=>A.rd (Qb .lss false [(h0 v1),t2] σ) fun t3=>A.test t3 (joinK (fun k4=>A.rd (Xd 14 [x1,(h0 v1)] σ) fun t6=>
 A.rd (Ze true 14 [t6] σ) fun t7=>A.wr (Yf [.int .i8 0,.int .i8 0,.int .i8 0,jv 0,.int .i8 0,.nils,.str [],.int .i8 0,.int .i8 0,.str [],.nils,.nils,.nils,.nils] [] σ) σ fun t8 σ=>
 A.wr (Zc 14 [t8,t7] σ) σ fun _ σ=>A.rd (Ya 0 [t8] σ) fun t9=>A.rd (Qa [t9] σ) fun t10=>A.rd (Qb .eql false [t10,.int .i8 5] σ) fun t11=>
 A.test t11 (A.rd (Ya 2 [t8] σ) fun t12=>A.rd (Ze true 4 [t12] σ) fun t13=>A.call (.call 191) [t13] σ fun t14 σ=>A.call (.call 190) [x0,t14] σ fun t15 σ=>
 A.call (.call 189) [t15,.int .i8 1] σ fun t16 σ=>A.rd (Yp .not [t16] σ) fun t17=>A.test t17 (ret (.bool false) σ) (k4 [] σ)) (A.rd (Qb .eql false [t10,.int .i8 8] σ) fun t18=>
 A.test t18 (A.rd (Ya 7 [t8] σ) fun t19=>A.rd (Ze true 5 [t19] σ) fun t20=>A.call (.call 192) [t20] σ fun t21 σ=>A.call (.call 190) [x0,t21] σ fun t22 σ=>
 A.rd (Ya 12 [t8] σ) fun t23=>A.rd (Qa [t23] σ) fun t24=>A.call (.call 146) [t22,t24] σ fun t25 σ=>A.rd (Yp .not [t25] σ) fun t26=>A.gof t26 (Zj [t22] σ) fun t27=>
 A.gof t26 (Ya 13 [t8] σ) fun t28=>A.gof t26 (Qa [t28] σ) fun t29=>A.gw t26 false (fun k=>A.call (.call 146) [t27,t29] σ k) σ fun t30 σ=>A.gof t26 (Yp .not [t30] σ) fun t31=>
 A.rd (Qc [t26,.bool true,t31] σ) fun t32=>A.test t32 (ret (.bool false) σ) (k4 [] σ)) (A.rd (Qb .eql false [t10,.int .i8 0] σ) fun t33=>joinK (fun k34=>
 A.test t33 (k34 [t33] σ) (A.rd (Qb .eql false [t10,.int .i8 1] σ) fun t36=>A.test t36 (k34 [t36] σ) (A.rd (Qb .eql false [t10,.int .i8 2] σ) fun t37=>
 A.test t37 (k34 [t37] σ) (A.rd (Qb .eql false [t10,.int .i8 3] σ) fun t38=>k34 [t38] σ)))) (fun v35 σ=>A.test (h0 v35) (A.rd (Ya 2 [t8] σ) fun t39=>
 A.rd (Ze true 4 [t39] σ) fun t40=>A.call (.call 191) [t40] σ fun t41 σ=>A.call (.call 190) [x0,t41] σ fun t42 σ=>A.rd (Qb .neq false [t42,.int .i8 0] σ) fun t43=>
 A.test t43 (ret (.bool false) σ) (k4 [] σ)) (A.call (.call 190) [x0,x0] σ fun t44 σ=>A.rd (Qb .neq false [t44,.int .i8 0] σ) fun t45=>A.test t45 (ret (.bool false) σ) (
 k4 [] σ)))))) (fun v5 σ=>A.rd (Qb .add false [(h0 v1),jv 1] σ) fun t46=>ag0 [t46] σ)) (ret (.bool true) σ)) [jv 0] σ
 | _=>A.stop
abbrev n146:List (Option (List Nat)):=[none,some [5],none,some [],none,none,none,none,none,some [52],none,none,none,none,none]
theorem g146_ok:GOk prog GL0 146 2 g146:=gok2 (l:=n146) (by kernel_rfl) fun _ _ _ _ _ _=>by kernel_rfl
def g147:GFun:=fun A xs σ ret=>match xs with
 | [x0]=>
 A.call (.call 193) [x0,jv 0] σ fun t0 σ=>A.rd (Qe 0 [t0] σ) fun t1=>A.rd (Qe 1 [t0] σ) fun t2=>A.rd (Qb .geq false [t2,jv 1] σ) fun t3=>
 A.got t3 (Zj [t2] σ) fun t4=>A.got t3 (Qb .leq false [t4,jv 24] σ) fun t5=>A.rd (Qc [t3,t5,.bool false] σ) fun t6=>A.got t6 (Zj [t1] σ) fun t7=>
 A.got t6 (Zj [x0] σ) fun t8=>A.got t6 (Qq [t8] σ) fun t9=>A.got t6 (Qb .eql false [t7,t9] σ) fun t10=>A.rd (Qc [t6,t10,.bool false] σ) fun t11=>
 A.got t11 (Zj [x0] σ) fun t12=>A.got t11 (Qq [t12] σ) fun t13=>A.got t11 (Qb .leq false [t13,jv 40] σ) fun t14=>A.rd (Qc [t11,t14,.bool false] σ) fun t15=>
 A.got t15 (Zj [x0] σ) fun t16=>A.gw t15 true (fun k=>A.call (.call 194) [t16] σ k) σ fun t17 σ=>A.got t15 (Yp .not [t17] σ) fun t18=>A.rd (Qc [t15,t18,.bool false] σ) fun t19=>
 ret t19 σ
 | _=>A.stop
abbrev n147:List (Option (List Nat)):=[]
theorem g147_ok:GOk prog GL0 147 1 g147:=gok1 (l:=n147) (by kernel_rfl) fun _ _ _ _ _=>by kernel_rfl
def g148:GFun:=fun A xs σ ret=>match xs with
 | [x0,x1]=>
 A.wr (Zo [x0] σ) σ fun t0 σ=>A.loop (fun ag1 v2 σ=>A.rd (Qg [x1] σ) fun t3=>A.rd (Qb .lss false [(h0 v2),t3] σ) fun t4=>A.test t4 (A.dr (Ze true 2 [t0] σ) σ fun t5 l6 σ=>
 A.dr (Xd 1 [x1,(h0 v2)] σ) σ fun t7 l8 σ=>A.dr (Qa [t7] σ) σ fun t9 l10 σ=>A.dcall (.call 195) [t5,t9] σ fun t11 l12 σ=>A.pu (Qe 0 [t11] σ) fun t13=>
 A.pu (Qe 1 [t11] σ) fun t14=>A.gd (Xk [[],[],[],[1,2],[1,2,3],[0,1,2,3,4],[0,1,2,3,4,5],[0,1,2,3,4,5,6],[0,1,2,3,4,5,6],[0,1,2,3,4,5,6,7],[0,1,2,3,4,5,6,7,8,9]] [l6,([],[]),([],[]),l8,l10,l12,([],[]),([],[]),([],[]),([],[]),([],[])]) <|
 A.loop (fun ag15 v16 σ=>A.rd (Qb .lss false [(h0 v16),(h0 v2)] σ) fun t17=>A.test t17 (A.gr (h1 v16) true (fun k=>A.rd (Zj [x1] σ) k) fun t18=>A.gr (h1 v16) true (fun k=>A.rd (Zj [(h0 v16)] σ) k) fun t19=>
 A.gr (h1 v16) true (fun k=>A.rd (Xd 1 [t18,t19] σ) k) fun t20=>A.gr (h1 v16) true (fun k=>A.rd (Qa [t20] σ) k) fun t21=>A.gr (h1 v16) true (fun k=>A.rd (Zj [x1] σ) k) fun t22=>
 A.gr (h1 v16) true (fun k=>A.rd (Zj [(h0 v2)] σ) k) fun t23=>A.gr (h1 v16) true (fun k=>A.rd (Xd 1 [t22,t23] σ) k) fun t24=>A.gr (h1 v16) true (fun k=>A.rd (Qa [t24] σ) k) fun t25=>
 A.gr (h1 v16) true (fun k=>A.rd (Qb .neq false [t21,t25] σ) k) fun t26=>A.rd (Qc [(h1 v16),t26,.bool false] σ) fun t27=>A.rd (Qb .add false [(h0 v16),jv 1] σ) fun t28=>
 ag15 [t28,t27] σ) (A.rd (Yp .not [(h1 v16)] σ) fun t29=>A.test t29 (ret (.bool false) σ) (A.rd (Qb .add false [(h0 v2),jv 1] σ) fun t30=>ag1 [t30] σ))) [jv 0,t14] σ) (
 ret (.bool true) σ)) [jv 0] σ
 | _=>A.stop
abbrev n148:List (Option (List Nat)):=[none,some [5],none,none,none,some [8,7],none,none,none]
theorem g148_ok:GOk prog GL0 148 2 g148:=gok2 (l:=n148) (by kernel_rfl) fun _ _ _ _ _ _=>by kernel_rfl
def g149:GFun:=fun A xs σ ret=>match xs with
 | [x0]=>
 A.wr (Yf [jv 0,jv 0] [] σ) σ fun t0 σ=>A.rd (Qq [x0] σ) fun t1=>A.rd (Qb .gtr false [t1,jv 65536] σ) fun t2=>A.test t2 (A.rd (Xg [jv 0,jv 0] [(0,1)] [jv 3] σ) fun t3=>
 A.wr (Zc 2 [t0,t3] σ) σ fun _ σ=>A.opt (cellV true 2 t0 σ) fun r4=>ret (.tup [.nils,r4]) σ) (A.loop (fun ag5 v6 σ=>A.rd (Qq [x0] σ) fun t7=>A.rd (Qb .lss false [(h0 v6),t7] σ) fun t8=>
 A.test t8 (A.call (.call 196) [x0,(h0 v6)] σ fun t9 σ=>A.rd (Qe 0 [t9] σ) fun t10=>A.rd (Qe 1 [t9] σ) fun t11=>A.rd (Qb .eql false [t11,jv 0] σ) fun t12=>
 A.test t12 (A.rd (Xg [jv 0,jv 0] [(0,1),(1,1)] [jv 110,(h0 v6)] σ) fun t13=>A.wr (Zc 2 [t0,t13] σ) σ fun _ σ=>A.opt (cellV true 2 t0 σ) fun r14=>
 ret (.tup [.nils,r14]) σ) (A.rd (Qb .eql false [t10,jv 32] σ) fun t15=>A.gof t15 (Zj [t10] σ) fun t16=>A.gof t15 (Qb .eql false [t16,jv 10] σ) fun t17=>
 A.rd (Qc [t15,.bool true,t17] σ) fun t18=>A.gof t18 (Zj [t10] σ) fun t19=>A.gof t18 (Qb .eql false [t19,jv 13] σ) fun t20=>A.rd (Qc [t18,.bool true,t20] σ) fun t21=>
 A.gof t21 (Zj [t10] σ) fun t22=>A.gof t21 (Qb .eql false [t22,jv 9] σ) fun t23=>A.rd (Qc [t21,.bool true,t23] σ) fun t24=>A.test t24 (A.rd (Qb .add false [(h0 v6),jv 1] σ) fun t25=>
 ag5 [t25,(h1 v6)] σ) (A.rd (Qb .eql false [t10,jv 35] σ) fun t26=>A.test t26 (A.loop (fun ag27 v28 σ=>A.rd (Qq [x0] σ) fun t29=>A.rd (Qb .lss false [(h0 v28),t29] σ) fun t30=>
 A.got t30 (Zj [x0] σ) fun t31=>A.got t30 (Zj [(h0 v28)] σ) fun t32=>A.got t30 (Qy [t31,t32] σ) fun t33=>A.got t30 (Qb .neq false [t33,.int .u8 10] σ) fun t34=>
 A.rd (Qc [t30,t34,.bool false] σ) fun t35=>A.test t35 (A.call (.call 196) [x0,(h0 v28)] σ fun t36 σ=>A.rd (Qe 0 [t36] σ) fun t37=>A.rd (Qe 1 [t36] σ) fun t38=>
 A.rd (Qb .eql false [t38,jv 0] σ) fun t39=>A.test t39 (A.rd (Xg [jv 0,jv 0] [(0,1),(1,1)] [jv 110,(h0 v28)] σ) fun t40=>A.wr (Zc 2 [t0,t40] σ) σ fun _ σ=>
 A.opt (cellV true 2 t0 σ) fun r41=>ret (.tup [.nils,r41]) σ) (A.rd (Qb .add false [(h0 v28),t38] σ) fun t42=>ag27 [t42] σ)) (ag5 [(h0 v28),(h1 v6)] σ)) [(h0 v6)] σ) (
 A.call (.call 197) [t10] σ fun t43 σ=>A.test t43 (A.call (.call 193) [x0,(h0 v6)] σ fun t44 σ=>A.rd (Qe 0 [t44] σ) fun t45=>A.rd (Qe 1 [t44] σ) fun t46=>
 A.rd (Qb .gtr false [t46,jv 24] σ) fun t47=>A.gof t47 (Zj [t45] σ) fun t48=>A.gof t47 (Zj [(h0 v6)] σ) fun t49=>A.gof t47 (Qb .sub false [t48,t49] σ) fun t50=>
 A.gof t47 (Qb .gtr false [t50,jv 40] σ) fun t51=>A.rd (Qc [t47,.bool true,t51] σ) fun t52=>A.test t52 (A.rd (Xg [jv 0,jv 0] [(0,1),(1,1)] [jv 3,(h0 v6)] σ) fun t53=>
 A.wr (Zc 2 [t0,t53] σ) σ fun _ σ=>A.opt (cellV true 2 t0 σ) fun r54=>ret (.tup [.nils,r54]) σ) (A.rd (YV [x0,(h0 v6),t45] σ) fun t55=>A.rd (Xg [.int .i8 0,.str [],jv 0,jv 0] [(0,1),(1,1),(3,1)] [.int .i8 1,t55,(h0 v6)] σ) fun t56=>
 A.wr (Yl 4 1 [.int .i8 0,.str [],jv 0,jv 0] [(0,4)] [t56] σ) σ fun t57 σ=>A.wr (Yk 4 40 [(h1 v6),t57] σ) σ fun t58 σ=>ag5 [t45,t58] σ)) (
 A.call (.call 198) [t10] σ fun t59 σ=>A.test t59 (A.loop (fun ag60 v61 σ=>A.rd (Qq [x0] σ) fun t62=>A.rd (Qb .lss false [(h0 v61),t62] σ) fun t63=>
 A.got t63 (Zj [x0] σ) fun t64=>A.got t63 (Zj [(h0 v61)] σ) fun t65=>A.got t63 (Qy [t64,t65] σ) fun t66=>A.got t63 (Xab .i64 [t66] σ) fun t67=>
 A.gw t63 true (fun k=>A.call (.call 198) [t67] σ k) σ fun t68 σ=>A.rd (Qc [t63,t68,.bool false] σ) fun t69=>A.test t69 (A.rd (Qb .mul false [(h1 v61),jv 10] σ) fun t70=>
 A.rd (Qy [x0,(h0 v61)] σ) fun t71=>A.rd (Qb .sub false [t71,.int .u8 48] σ) fun t72=>A.rd (Xab .i64 [t72] σ) fun t73=>A.rd (Qb .add false [t70,t73] σ) fun t74=>
 A.rd (ZX [t74,jv 1000] σ) fun t75=>A.rd (Qb .add false [(h0 v61),jv 1] σ) fun t76=>ag60 [t76,t75] σ) (A.rd (Qy [x0,(h0 v6)] σ) fun t77=>
 A.rd (Qb .eql false [t77,.int .u8 48] σ) fun t78=>A.got t78 (Zj [(h0 v61)] σ) fun t79=>A.got t78 (Zj [(h0 v6)] σ) fun t80=>A.got t78 (Qb .add false [t80,jv 1] σ) fun t81=>
 A.got t78 (Qb .gtr false [t79,t81] σ) fun t82=>A.rd (Qc [t78,t82,.bool false] σ) fun t83=>A.test t83 (A.rd (Xg [jv 0,jv 0] [(0,1),(1,1)] [jv 110,(h0 v6)] σ) fun t84=>
 A.wr (Zc 2 [t0,t84] σ) σ fun _ σ=>A.opt (cellV true 2 t0 σ) fun r85=>ret (.tup [.nils,r85]) σ) (A.rd (Qb .gtr false [(h1 v61),jv 999] σ) fun t86=>
 A.test t86 (A.rd (Xg [jv 0,jv 0] [(0,1),(1,1)] [jv 3,(h0 v6)] σ) fun t87=>A.wr (Zc 2 [t0,t87] σ) σ fun _ σ=>A.opt (cellV true 2 t0 σ) fun r88=>
 ret (.tup [.nils,r88]) σ) (A.rd (Xg [.int .i8 0,.str [],jv 0,jv 0] [(0,1),(2,1),(3,1)] [.int .i8 2,(h1 v61),(h0 v6)] σ) fun t89=>A.wr (Yl 4 1 [.int .i8 0,.str [],jv 0,jv 0] [(0,4)] [t89] σ) σ fun t90 σ=>
 A.wr (Yk 4 40 [(h1 v6),t90] σ) σ fun t91 σ=>ag5 [(h0 v61),t91] σ)))) [(h0 v6),jv 0] σ) (A.call (.call 199) [] σ fun t92 σ=>A.loop (fun ag93 v94 σ=>
 A.rd (Qg [t92] σ) fun t95=>A.rd (Qb .lss false [(h0 v94),t95] σ) fun t96=>A.got t96 (Zj [(h1 v94)] σ) fun t97=>A.got t96 (Yp .not [t97] σ) fun t98=>
 A.rd (Qc [t96,t98,.bool false] σ) fun t99=>A.test t99 (joinK (fun k100=>A.rd (Xd 1 [t92,(h0 v94)] σ) fun t102=>A.rd (Qa [t102] σ) fun t103=>
 A.rd (Qq [t103] σ) fun t104=>A.rd (Qb .add false [(h2 v94),t104] σ) fun t105=>A.rd (Qq [x0] σ) fun t106=>A.rd (Qb .leq false [t105,t106] σ) fun t107=>
 A.got t107 (Zj [x0] σ) fun t108=>A.got t107 (Zj [(h2 v94)] σ) fun t109=>A.got t107 (Zj [(h2 v94)] σ) fun t110=>A.got t107 (Zj [t103] σ) fun t111=>A.got t107 (Qq [t111] σ) fun t112=>
 A.got t107 (Qb .add false [t110,t112] σ) fun t113=>A.got t107 (YV [t108,t109,t113] σ) fun t114=>A.got t107 (Zj [t103] σ) fun t115=>A.got t107 (Qb .eql false [t114,t115] σ) fun t116=>
 A.rd (Qc [t107,t116,.bool false] σ) fun t117=>A.test t117 (A.rd (Xg [.int .i8 0,.str [],jv 0,jv 0] [(0,1),(1,1),(3,1)] [.int .i8 3,t103,(h2 v94)] σ) fun t118=>
 A.wr (Yl 4 1 [.int .i8 0,.str [],jv 0,jv 0] [(0,4)] [t118] σ) σ fun t119 σ=>A.wr (Yk 4 40 [(h3 v94),t119] σ) σ fun t120 σ=>A.rd (Qq [t103] σ) fun t121=>
 A.rd (Qb .add false [(h2 v94),t121] σ) fun t122=>k100 [.bool true,t122,t120] σ) (k100 [(h1 v94),(h2 v94),(h3 v94)] σ)) (fun v101 σ=>A.rd (Qb .add false [(h0 v94),jv 1] σ) fun t123=>
 ag93 [t123,(h0 v101),(h1 v101),(h2 v101)] σ)) (A.rd (Yp .not [(h1 v94)] σ) fun t124=>A.test t124 (A.rd (Xg [jv 0,jv 0] [(0,1),(1,1)] [jv 110,(h2 v94)] σ) fun t125=>
 A.wr (Zc 2 [t0,t125] σ) σ fun _ σ=>A.opt (cellV true 2 t0 σ) fun r126=>ret (.tup [.nils,r126]) σ) (ag5 [(h2 v94),(h3 v94)] σ))) [jv 0,.bool false,(h0 v6),(h1 v6)] σ)))))) (
 A.rd (Qq [x0] σ) fun t127=>A.rd (Xg [.int .i8 0,.str [],jv 0,jv 0] [(0,1),(3,1)] [.int .i8 0,t127] σ) fun t128=>A.wr (Yl 4 1 [.int .i8 0,.str [],jv 0,jv 0] [(0,4)] [t128] σ) σ fun t129 σ=>
 A.wr (Yk 4 40 [(h1 v6),t129] σ) σ fun t130 σ=>A.rd (Xg [jv 0,jv 0] [] [] σ) fun t131=>A.wr (Zc 2 [t0,t131] σ) σ fun _ σ=>A.opt (cellV true 2 t0 σ) fun r132=>
 ret (.tup [t130,r132]) σ)) [jv 0,.nils] σ)
 | _=>A.stop
abbrev n149:List (Option (List Nat)):=[none,none,some [5,4],none,none,none,none,none,none,some [5],none,none,none,none,none,none,none,some [12,13],none,none,none,none,none,some [16,15,5,4],none,some [15,5,4],none,none]
theorem g149_ok:GOk prog GL0 149 1 g149:=gok1 (l:=n149) (by kernel_rfl) fun _ _ _ _ _=>by kernel_rfl
def g150:GFun:=fun A xs σ ret=>match xs with
 | [x0]=>
 A.rd (Xb [x0] σ) fun t0=>A.rd (Ya 3 [t0] σ) fun t1=>A.rd (Ya 0 [t1] σ) fun t2=>A.rd (Qa [t2] σ) fun t3=>A.rd (Qb .eql false [t3,jv 0] σ) fun t4=>
 ret t4 σ
 | _=>A.stop
abbrev n150:List (Option (List Nat)):=[]
theorem g150_ok:GOk prog GL0 150 1 g150:=gok1 (l:=n150) (by kernel_rfl) fun _ _ _ _ _=>by kernel_rfl
end Go.Ah.Tz
end
section
namespace Go.Ah.Tz
open Go.Proofs.Tryz (prog)
set_option maxRecDepth 100000
def g151:GFun:=fun A xs σ ret=>match xs with
 | [x0,x1]=>
 A.pu (Xb [x0] σ) fun t0=>A.pu (Ya 0 [t0] σ) fun t1=>A.dr (Qa [t1] σ) σ fun t2 l3 σ=>A.pu (Xb [x0] σ) fun t4=>A.pu (Ya 1 [t4] σ) fun t5=>
 A.dr (Qa [t5] σ) σ fun t6 l7 σ=>A.dr (Xd 4 [t2,t6] σ) σ fun t8 l9 σ=>A.dr (Ze true 4 [t8] σ) σ fun t10 l11 σ=>A.dr (Yf [.int .i8 0,.str [],jv 0,jv 0] [] σ) σ fun t12 l13 σ=>
 A.dr (Zc 4 [t12,t10] σ) σ fun _ l14 σ=>A.gd (Xk [[],[0],[0,1],[0,1,2],[],[4],[4,5],[4,5,6],[0,1,2,3,4,5,6,7],[0,1,2,3,4,5,6,7,8],[],[0,1,2,3,4,5,6,7,8,9,10]] [([],[]),([],[]),([],[]),l3,([],[]),([],[]),([],[]),l7,l9,l11,l13,l14]) <|
 A.call (.call 150) [x0] σ fun t15 σ=>A.got t15 (Ya 0 [t12] σ) fun t16=>A.got t15 (Qa [t16] σ) fun t17=>A.got t15 (Qb .eql false [t17,.int .i8 1] σ) fun t18=>
 A.got t15 (Zj [t18] σ) fun t19=>A.gof t19 (Ya 0 [t12] σ) fun t20=>A.gof t19 (Qa [t20] σ) fun t21=>A.gof t19 (Qb .eql false [t21,.int .i8 3] σ) fun t22=>
 A.got t15 (Qc [t19,.bool true,t22] σ) fun t23=>A.rd (Qc [t15,t23,.bool false] σ) fun t24=>A.got t24 (Ya 1 [t12] σ) fun t25=>A.got t24 (Qa [t25] σ) fun t26=>
 A.got t24 (Zj [x1] σ) fun t27=>A.got t24 (Qb .eql false [t26,t27] σ) fun t28=>A.rd (Qc [t24,t28,.bool false] σ) fun t29=>ret t29 σ
 | _=>A.stop
abbrev n151:List (Option (List Nat)):=[]
theorem g151_ok:GOk prog GL0 151 2 g151:=gok2 (l:=n151) (by kernel_rfl) fun _ _ _ _ _ _=>by kernel_rfl
def g152:GFun:=fun A xs σ ret=>match xs with
 | [x0,x1]=>
 A.call (.call 150) [x0] σ fun t0 σ=>A.test t0 (A.pu (Xb [x0] σ) fun t1=>A.pu (Ya 0 [t1] σ) fun t2=>A.dr (Qa [t2] σ) σ fun t3 l4 σ=>A.pu (Xb [x0] σ) fun t5=>
 A.pu (Ya 1 [t5] σ) fun t6=>A.dr (Qa [t6] σ) σ fun t7 l8 σ=>A.dr (Xd 4 [t3,t7] σ) σ fun t9 l10 σ=>A.pu (Ya 3 [t9] σ) fun t11=>
 A.dr (Qa [t11] σ) σ fun t12 l13 σ=>A.pu (Xg [jv 0,jv 0] [(0,1),(1,1)] [x1,t12] σ) fun t14=>A.pu (Xb [x0] σ) fun t15=>A.pu (Ya 3 [t15] σ) fun t16=>
 A.dr (Zc 2 [t16,t14] σ) σ fun _ l17 σ=>A.gd (Xk [[],[],[],[2],[2,3],[2,3,4],[],[6],[6,7],[6,7,8],[2,3,4,5,6,7,8,9],[2,3,4,5,6,7,8,9,10],[2,3,4,5,6,7,8,9,10,11],[1,2,3,4,5,6,7,8,9,10,11,12],[0,1,2,3,4,5,6,7,8,9,10,11,12,13],[0,1,2,3,4,5,6,7,8,9,10,11,12,13,14],[0,1,2,3,4,5,6,7,8,9,10,11,12,13,14,15]] [([],[]),([],[]),([],[]),([],[]),([],[]),l4,([],[]),([],[]),([],[]),l8,l10,([],[]),l13,([],[]),([],[]),([],[]),l17]) <|
 ret (.tup []) σ) (ret (.tup []) σ)
 | _=>A.stop
abbrev n152:List (Option (List Nat)):=[none]
theorem g152_ok:GOk prog GL0 152 2 g152:=gok2 (l:=n152) (by kernel_rfl) fun _ _ _ _ _ _=>by kernel_rfl
def g153:GFun:=fun A xs σ ret=>match xs with
 | [x0,x1]=>
 A.wr (Yf [.str [],.bool false,jv 0,jv 0,jv 0,jv 0,jv 0,jv 0,.nils,.nils,.nils,jv 0] [] σ) σ fun t0 σ=>A.call (.call 200) [x0] σ fun t1 σ=>
 A.rd (Xg [.str [],.bool false,jv 0,jv 0,jv 0,jv 0,jv 0,jv 0,.nils,.nils,.nils,jv 0] [(11,1),(0,1)] [x1,t1] σ) fun t2=>A.wr (Yf [.str [],.bool false,jv 0,jv 0,jv 0,jv 0,jv 0,jv 0,.nils,.nils,.nils,jv 0] [] σ) σ fun t3 σ=>
 A.wr (Zc 12 [t3,t2] σ) σ fun _ σ=>A.call (.call 201) [x0,(.str [117,110,105,116])] σ fun t4 σ=>joinK (fun k5=>A.test t4 (A.rd (Ya 1 [t3] σ) fun t7=>
 A.wr (Zc 1 [t7,.bool true] σ) σ fun _ σ=>A.call (.call 202) [x0] σ fun t8 σ=>A.rd (Ya 2 [t3] σ) fun t9=>A.wr (Zc 1 [t9,t8] σ) σ fun _ σ=>
 A.call (.call 202) [x0] σ fun t10 σ=>A.rd (Ya 3 [t3] σ) fun t11=>A.wr (Zc 1 [t11,t10] σ) σ fun _ σ=>A.call (.call 203) [x0,(.str [47])] σ fun t12 σ=>
 A.call (.call 202) [x0] σ fun t13 σ=>A.rd (Ya 4 [t3] σ) fun t14=>A.wr (Zc 1 [t14,t13] σ) σ fun _ σ=>k5 [] σ) (A.call (.call 203) [x0,(.str [99,104,97,114,109])] σ fun t15 σ=>
 A.call (.call 202) [x0] σ fun t16 σ=>A.rd (Ya 2 [t3] σ) fun t17=>A.wr (Zc 1 [t17,t16] σ) σ fun _ σ=>k5 [] σ)) (fun v6 σ=>A.call (.call 203) [x0,(.str [123])] σ fun t18 σ=>
 joinK (fun k19=>A.loop (fun ag21 v22 σ=>A.call (.call 150) [x0] σ fun t23 σ=>A.got t23 (Zj [x0] σ) fun t24=>A.gw t23 true (fun k=>A.call (.call 151) [t24,(.str [125])] σ k) σ fun t25 σ=>
 A.got t23 (Yp .not [t25] σ) fun t26=>A.rd (Qc [t23,t26,.bool false] σ) fun t27=>A.test t27 (A.rd (Xb [x0] σ) fun t28=>A.rd (Ya 0 [t28] σ) fun t29=>
 A.rd (Qa [t29] σ) fun t30=>A.rd (Xb [x0] σ) fun t31=>A.rd (Ya 1 [t31] σ) fun t32=>A.rd (Qa [t32] σ) fun t33=>A.rd (Xd 4 [t30,t33] σ) fun t34=>
 A.rd (Ya 1 [t34] σ) fun t35=>A.rd (Qa [t35] σ) fun t36=>A.call (.call 151) [x0,(.str [112,108,97,121,101,100])] σ fun t37 σ=>A.rd (Yp .not [t37] σ) fun t38=>
 A.got t38 (Zj [x0] σ) fun t39=>A.gw t38 true (fun k=>A.call (.call 151) [t39,(.str [100,101,97,100])] σ k) σ fun t40 σ=>A.got t38 (Yp .not [t40] σ) fun t41=>
 A.rd (Qc [t38,t41,.bool false] σ) fun t42=>A.got t42 (Zj [x0] σ) fun t43=>A.gw t42 true (fun k=>A.call (.call 151) [t43,(.str [100,97,119,110])] σ k) σ fun t44 σ=>
 A.got t42 (Yp .not [t44] σ) fun t45=>A.rd (Qc [t42,t45,.bool false] σ) fun t46=>A.got t46 (Zj [x0] σ) fun t47=>A.gw t46 true (fun k=>A.call (.call 151) [t47,(.str [97,117,114,97])] σ k) σ fun t48 σ=>
 A.got t46 (Yp .not [t48] σ) fun t49=>A.rd (Qc [t46,t49,.bool false] σ) fun t50=>A.got t50 (Zj [x0] σ) fun t51=>A.gw t50 true (fun k=>A.call (.call 151) [t51,(.str [115,104,105,101,108,100])] σ k) σ fun t52 σ=>
 A.got t50 (Yp .not [t52] σ) fun t53=>A.rd (Qc [t50,t53,.bool false] σ) fun t54=>A.test t54 (A.call (.call 152) [x0,jv 120] σ fun t55 σ=>k19 [] σ) (
 A.call (.call 204) [x0,(h0 v22),t36] σ fun t56 σ=>A.rd (Xb [x0] σ) fun t57=>A.rd (Ya 1 [t57] σ) fun t58=>A.rd (Qa [t58] σ) fun t59=>
 A.rd (Qb .add false [t59,jv 1] σ) fun t60=>A.rd (Xb [x0] σ) fun t61=>A.rd (Ya 1 [t61] σ) fun t62=>A.wr (Zc 1 [t62,t60] σ) σ fun _ σ=>
 A.rd (Qb .eql false [t36,(.str [112,108,97,121,101,100])] σ) fun t63=>A.test t63 (A.call (.call 205) [x0] σ fun t64 σ=>A.rd (Ya 8 [t3] σ) fun t65=>
 A.wr (Zc 1 [t65,t64] σ) σ fun _ σ=>ag21 [t56] σ) (A.rd (Qb .eql false [t36,(.str [100,101,97,100])] σ) fun t66=>A.test t66 (A.call (.call 205) [x0] σ fun t67 σ=>
 A.rd (Ya 9 [t3] σ) fun t68=>A.wr (Zc 1 [t68,t67] σ) σ fun _ σ=>ag21 [t56] σ) (A.rd (Qb .eql false [t36,(.str [100,97,119,110])] σ) fun t69=>
 A.test t69 (A.call (.call 205) [x0] σ fun t70 σ=>A.rd (Ya 10 [t3] σ) fun t71=>A.wr (Zc 1 [t71,t70] σ) σ fun _ σ=>ag21 [t56] σ) (A.rd (Qb .eql false [t36,(.str [97,117,114,97])] σ) fun t72=>
 A.test t72 (A.call (.call 202) [x0] σ fun t73 σ=>A.rd (Ya 6 [t3] σ) fun t74=>A.wr (Zc 1 [t74,t73] σ) σ fun _ σ=>A.call (.call 203) [x0,(.str [47])] σ fun t75 σ=>
 A.call (.call 202) [x0] σ fun t76 σ=>A.rd (Ya 7 [t3] σ) fun t77=>A.wr (Zc 1 [t77,t76] σ) σ fun _ σ=>A.call (.call 203) [x0,(.str [59])] σ fun t78 σ=>
 ag21 [t56] σ) (A.rd (Qb .eql false [t36,(.str [115,104,105,101,108,100])] σ) fun t79=>A.test t79 (A.call (.call 202) [x0] σ fun t80 σ=>A.rd (Ya 5 [t3] σ) fun t81=>
 A.wr (Zc 1 [t81,t80] σ) σ fun _ σ=>A.call (.call 203) [x0,(.str [59])] σ fun t82 σ=>ag21 [t56] σ) (ag21 [t56] σ))))))) (k19 [] σ)) [.nils] σ) (fun v20 σ=>
 A.dcall (.call 150) [x0] σ fun t83 l84 σ=>A.gr t83 true (fun k=>A.pu (Ya 8 [t3] σ) k) fun t85=>A.gl t83 true (fun k=>A.dr (Qa [t85] σ) σ k) σ fun t86 l87 σ=>
 A.gl t83 true (fun k=>A.dcall (.call 206) [t86] σ k) σ fun t88 l89 σ=>A.gr t83 true (fun k=>A.pu (Ya 9 [t3] σ) k) fun t90=>A.gl t83 true (fun k=>A.dr (Qa [t90] σ) σ k) σ fun t91 l92 σ=>
 A.gl t83 true (fun k=>A.dcall (.call 206) [t91] σ k) σ fun t93 l94 σ=>A.gr t83 true (fun k=>A.pu (Qb .add false [t88,t93] σ) k) fun t95=>A.gr t83 true (fun k=>A.pu (Ya 10 [t3] σ) k) fun t96=>
 A.gl t83 true (fun k=>A.dr (Qa [t96] σ) σ k) σ fun t97 l98 σ=>A.gl t83 true (fun k=>A.dcall (.call 206) [t97] σ k) σ fun t99 l100 σ=>A.gr t83 true (fun k=>A.pu (Qb .add false [t95,t99] σ) k) fun t101=>
 A.gr t83 true (fun k=>A.pu (Qb .gtr false [t101,jv 200] σ) k) fun t102=>A.pu (Qc [t83,t102,.bool false] σ) fun t103=>A.gd (Xk [[],[0],[0,1],[0,1,2],[0,1,2,3],[0,1,2,3,4],[0,1,2],[0,1,2,6],[0,1,2,3,4,5,6,7],[0,1,2,3,4,5,6,7,8],[0,1,2],[0,1,2,10],[0,1,2,3,4,5,6,7,8,10,11],[0,1,2,3,4,5,6,7,8,9,10,11,12],[0,1,2,3,4,5,6,7,8,9,10,11,12,13],[0,1,2,3,4,5,6,7,8,9,10,11,12,13,14]] [([],[]),l84,([],[]),([],[]),l87,l89,([],[]),l92,l94,([],[]),([],[]),l98,l100,([],[]),([],[]),([],[])]) <|
 joinK (fun k104=>A.test t103 (A.call (.call 152) [x0,jv 3] σ fun t106 σ=>k104 [] σ) (k104 [] σ)) (fun v105 σ=>A.call (.call 203) [x0,(.str [125])] σ fun t107 σ=>
 A.rd (Ze true 12 [t3] σ) fun t108=>A.wr (Zc 12 [t0,t108] σ) σ fun _ σ=>A.opt (cellV true 12 t0 σ) fun r109=>ret r109 σ)))
 | _=>A.stop
abbrev n153:List (Option (List Nat)):=[some [],some [],some [6],none,none,none,none,none,none,none,none,none,some []]
theorem g153_ok:GOk prog GL0 153 2 g153:=gok2 (l:=n153) (by kernel_rfl) fun _ _ _ _ _ _=>by kernel_rfl
def g154:GFun:=fun A xs σ ret=>match xs with
 | [x0,x1]=>
 A.wr (Yf [.str [],jv 0,jv 0,jv 0,.nils,.nils,jv 0] [] σ) σ fun t0 σ=>A.call (.call 200) [x0] σ fun t1 σ=>A.rd (Xg [.str [],jv 0,jv 0,jv 0,.nils,.nils,jv 0] [(6,1),(0,1)] [x1,t1] σ) fun t2=>
 A.wr (Yf [.str [],jv 0,jv 0,jv 0,.nils,.nils,jv 0] [] σ) σ fun t3 σ=>A.wr (Zc 7 [t3,t2] σ) σ fun _ σ=>A.call (.call 203) [x0,(.str [123])] σ fun t4 σ=>
 joinK (fun k5=>A.loop (fun ag7 v8 σ=>A.call (.call 150) [x0] σ fun t9 σ=>A.got t9 (Zj [x0] σ) fun t10=>A.gw t9 true (fun k=>A.call (.call 151) [t10,(.str [125])] σ k) σ fun t11 σ=>
 A.got t9 (Yp .not [t11] σ) fun t12=>A.rd (Qc [t9,t12,.bool false] σ) fun t13=>A.test t13 (A.rd (Xb [x0] σ) fun t14=>A.rd (Ya 0 [t14] σ) fun t15=>
 A.rd (Qa [t15] σ) fun t16=>A.rd (Xb [x0] σ) fun t17=>A.rd (Ya 1 [t17] σ) fun t18=>A.rd (Qa [t18] σ) fun t19=>A.rd (Xd 4 [t16,t19] σ) fun t20=>
 A.rd (Ya 1 [t20] σ) fun t21=>A.rd (Qa [t21] σ) fun t22=>A.call (.call 151) [x0,(.str [108,101,97,115,116])] σ fun t23 σ=>A.rd (Yp .not [t23] σ) fun t24=>
 A.got t24 (Zj [x0] σ) fun t25=>A.gw t24 true (fun k=>A.call (.call 151) [t25,(.str [109,111,115,116])] σ k) σ fun t26 σ=>A.got t24 (Yp .not [t26] σ) fun t27=>
 A.rd (Qc [t24,t27,.bool false] σ) fun t28=>A.got t28 (Zj [x0] σ) fun t29=>A.gw t28 true (fun k=>A.call (.call 151) [t29,(.str [99,111,112,105,101,115])] σ k) σ fun t30 σ=>
 A.got t28 (Yp .not [t30] σ) fun t31=>A.rd (Qc [t28,t31,.bool false] σ) fun t32=>A.got t32 (Zj [x0] σ) fun t33=>A.gw t32 true (fun k=>A.call (.call 151) [t33,(.str [98,97,110,110,101,100])] σ k) σ fun t34 σ=>
 A.got t32 (Yp .not [t34] σ) fun t35=>A.rd (Qc [t32,t35,.bool false] σ) fun t36=>A.got t36 (Zj [x0] σ) fun t37=>A.gw t36 true (fun k=>A.call (.call 151) [t37,(.str [115,105,110,103,108,101])] σ k) σ fun t38 σ=>
 A.got t36 (Yp .not [t38] σ) fun t39=>A.rd (Qc [t36,t39,.bool false] σ) fun t40=>A.test t40 (A.call (.call 152) [x0,jv 120] σ fun t41 σ=>k5 [] σ) (
 A.call (.call 204) [x0,(h0 v8),t22] σ fun t42 σ=>A.rd (Xb [x0] σ) fun t43=>A.rd (Ya 1 [t43] σ) fun t44=>A.rd (Qa [t44] σ) fun t45=>A.rd (Qb .add false [t45,jv 1] σ) fun t46=>
 A.rd (Xb [x0] σ) fun t47=>A.rd (Ya 1 [t47] σ) fun t48=>A.wr (Zc 1 [t48,t46] σ) σ fun _ σ=>joinK (fun k49=>A.rd (Qb .eql false [t22,(.str [108,101,97,115,116])] σ) fun t51=>
 A.test t51 (A.call (.call 202) [x0] σ fun t52 σ=>A.rd (Ya 1 [t3] σ) fun t53=>A.wr (Zc 1 [t53,t52] σ) σ fun _ σ=>k49 [] σ) (A.rd (Qb .eql false [t22,(.str [109,111,115,116])] σ) fun t54=>
 A.test t54 (A.call (.call 202) [x0] σ fun t55 σ=>A.rd (Ya 2 [t3] σ) fun t56=>A.wr (Zc 1 [t56,t55] σ) σ fun _ σ=>k49 [] σ) (A.rd (Qb .eql false [t22,(.str [99,111,112,105,101,115])] σ) fun t57=>
 A.test t57 (A.call (.call 202) [x0] σ fun t58 σ=>A.rd (Ya 3 [t3] σ) fun t59=>A.wr (Zc 1 [t59,t58] σ) σ fun _ σ=>k49 [] σ) (A.rd (Qb .eql false [t22,(.str [98,97,110,110,101,100])] σ) fun t60=>
 A.test t60 (A.call (.call 207) [x0] σ fun t61 σ=>A.rd (Ya 4 [t3] σ) fun t62=>A.wr (Zc 1 [t62,t61] σ) σ fun _ σ=>k49 [] σ) (A.rd (Qb .eql false [t22,(.str [115,105,110,103,108,101])] σ) fun t63=>
 A.test t63 (A.call (.call 207) [x0] σ fun t64 σ=>A.rd (Ya 5 [t3] σ) fun t65=>A.wr (Zc 1 [t65,t64] σ) σ fun _ σ=>k49 [] σ) (k49 [] σ)))))) (fun v50 σ=>
 A.call (.call 203) [x0,(.str [59])] σ fun t66 σ=>ag7 [t42] σ))) (k5 [] σ)) [.nils] σ) (fun v6 σ=>A.call (.call 203) [x0,(.str [125])] σ fun t67 σ=>A.rd (Ze true 7 [t3] σ) fun t68=>
 A.wr (Zc 7 [t0,t68] σ) σ fun _ σ=>A.opt (cellV true 7 t0 σ) fun r69=>ret r69 σ)
 | _=>A.stop
abbrev n154:List (Option (List Nat)):=[some [],some [6],none,none,none,some [],none,none,none,none,none]
theorem g154_ok:GOk prog GL0 154 2 g154:=gok2 (l:=n154) (by kernel_rfl) fun _ _ _ _ _ _=>by kernel_rfl
def g155:GFun:=fun A xs σ ret=>match xs with
 | [x0,x1]=>
 A.rd (Xb [x0] σ) fun t0=>A.rd (Ya 8 [t0] σ) fun t1=>A.rd (Qa [t1] σ) fun t2=>A.rd (Xb [x0] σ) fun t3=>A.rd (Ya 9 [t3] σ) fun t4=>
 A.rd (Qa [t4] σ) fun t5=>A.rd (Xb [x0] σ) fun t6=>A.rd (Ya 10 [t6] σ) fun t7=>A.rd (Qa [t7] σ) fun t8=>A.rd (Xg [.nils,.nils,.nils] [(0,1),(1,1),(2,1)] [t2,t5,t8] σ) fun t9=>
 A.loop (fun ag10 v11 σ=>A.rd (Qb .lss false [(h0 v11),jv 3] σ) fun t12=>A.test t12 (A.rd (Y3 false 3 1 [t9,(h0 v11)] σ) fun t13=>A.rd (Qg [t13] σ) fun t14=>
 A.loop (fun ag15 v16 σ=>A.rd (Qb .lss false [(h0 v16),t14] σ) fun t17=>A.test t17 (A.rd (Xd 14 [t13,(h0 v16)] σ) fun t18=>A.rd (Xg [.nilp] [(0,1)] [t18] σ) fun t19=>
 A.rd (Xz 272 [t19] σ) fun t20=>A.call (.call 208) [t20,x1] σ fun t21 σ=>A.rd (Yp .not [t21] σ) fun t22=>A.test t22 (ret (.tup []) σ) (A.rd (Qb .add false [(h0 v16),jv 1] σ) fun t23=>
 ag15 [t23] σ)) (A.rd (Qb .add false [(h0 v11),jv 1] σ) fun t24=>ag10 [t24] σ)) [jv 0] σ) (ret (.tup []) σ)) [jv 0] σ
 | _=>A.stop
abbrev n155:List (Option (List Nat)):=[none,some [20],none,none,none,some [25],none,none,none]
theorem g155_ok:GOk prog GL0 155 2 g155:=gok2 (l:=n155) (by kernel_rfl) fun _ _ _ _ _ _=>by kernel_rfl
def g156:GFun:=fun A xs σ ret=>match xs with
 | [x0,x1]=>
 A.rd (Qa [x1] σ) fun t0=>A.rd (Qb .add false [t0,jv 1] σ) fun t1=>A.wr (Zc 1 [x1,t1] σ) σ fun _ σ=>A.rd (Qa [x1] σ) fun t2=>A.rd (Qb .lss false [t2,jv 1073741824] σ) fun t3=>
 ret t3 σ
 | _=>A.stop
abbrev n156:List (Option (List Nat)):=[]
theorem g156_ok:GOk prog GL0 156 2 g156:=gok2 (l:=n156) (by kernel_rfl) fun _ _ _ _ _ _=>by kernel_rfl
def g157:GFun:=fun A xs σ ret=>match xs with
 | [x0,x1,x2]=>
 A.rd (Qg [x1] σ) fun t0=>A.rd (Qb .gtr false [t0,jv 16] σ) fun t1=>A.gof t1 (Zj [x2] σ) fun t2=>A.gof t1 (Qb .gtr false [t2,jv 8] σ) fun t3=>
 A.rd (Qc [t1,.bool true,t3] σ) fun t4=>A.test t4 (ret (.bool false) σ) (A.rd (Qg [x1] σ) fun t5=>A.loop (fun ag6 v7 σ=>A.rd (Qb .lss false [(h0 v7),t5] σ) fun t8=>
 A.test t8 (A.rd (Xd 14 [x1,(h0 v7)] σ) fun t9=>A.call (.call 209) [t9] σ fun t10 σ=>A.got t10 (Zj [t9] σ) fun t11=>A.got t10 (Xb [t11] σ) fun t12=>
 A.got t10 (Ya 0 [t12] σ) fun t13=>A.got t10 (Qa [t13] σ) fun t14=>A.gw t10 true (fun k=>A.call (.call 210) [t14] σ k) σ fun t15 σ=>A.got t10 (Yp .not [t15] σ) fun t16=>
 A.got t10 (Zj [t16] σ) fun t17=>A.gof t17 (Zj [x0] σ) fun t18=>A.gof t17 (Zj [t9] σ) fun t19=>A.gof t17 (Xb [t19] σ) fun t20=>A.gof t17 (Ya 2 [t20] σ) fun t21=>
 A.gw t17 false (fun k=>A.call (.call 211) [t18,t21] σ k) σ fun t22 σ=>A.got t10 (Qc [t17,.bool true,t22] σ) fun t23=>A.rd (Qc [t10,t23,.bool false] σ) fun t24=>
 A.rd (Xb [t9] σ) fun t25=>A.rd (Ya 0 [t25] σ) fun t26=>A.rd (Qa [t26] σ) fun t27=>joinK (fun k28=>A.rd (Qb .eql false [t27,.int .i8 0] σ) fun t30=>
 joinK (fun k31=>A.test t30 (k31 [t30] σ) (A.rd (Qb .eql false [t27,.int .i8 1] σ) fun t33=>k31 [t33] σ)) (fun v32 σ=>A.test (h0 v32) (A.got t24 (Zj [t9] σ) fun t34=>
 A.got t24 (Xb [t34] σ) fun t35=>A.got t24 (Ya 1 [t35] σ) fun t36=>A.got t24 (Qa [t36] σ) fun t37=>A.gw t24 true (fun k=>A.call (.call 212) [t37] σ k) σ fun t38 σ=>
 A.got t24 (Zj [t38] σ) fun t39=>A.gof t39 (Zj [t9] σ) fun t40=>A.gof t39 (Xb [t40] σ) fun t41=>A.gof t39 (Ya 1 [t41] σ) fun t42=>A.gof t39 (Qa [t42] σ) fun t43=>
 A.gof t39 (Qb .eql false [t43,.int .i8 2] σ) fun t44=>A.gof t39 (Zj [t44] σ) fun t45=>A.got t45 (Zj [x0] σ) fun t46=>A.got t45 (Xb [t46] σ) fun t47=>
 A.got t45 (Ya 1 [t47] σ) fun t48=>A.got t45 (Qa [t48] σ) fun t49=>A.gof t39 (Qc [t45,t49,.bool false] σ) fun t50=>A.got t24 (Qc [t39,.bool true,t50] σ) fun t51=>
 A.rd (Qc [t24,t51,.bool false] σ) fun t52=>k28 [t52] σ) (A.rd (Qb .eql false [t27,.int .i8 2] σ) fun t53=>joinK (fun k54=>A.test t53 (k54 [t53] σ) (
 A.rd (Qb .eql false [t27,.int .i8 4] σ) fun t56=>A.test t56 (k54 [t56] σ) (A.rd (Qb .eql false [t27,.int .i8 6] σ) fun t57=>k54 [t57] σ))) (fun v55 σ=>
 A.test (h0 v55) (A.got t24 (Zj [t9] σ) fun t58=>A.got t24 (Xb [t58] σ) fun t59=>A.got t24 (Ya 1 [t59] σ) fun t60=>A.got t24 (Qa [t60] σ) fun t61=>
 A.gw t24 true (fun k=>A.call (.call 212) [t61] σ k) σ fun t62 σ=>A.rd (Qc [t24,t62,.bool false] σ) fun t63=>k28 [t63] σ) (A.rd (Qb .eql false [t27,.int .i8 3] σ) fun t64=>
 joinK (fun k65=>A.test t64 (k65 [t64] σ) (A.rd (Qb .eql false [t27,.int .i8 5] σ) fun t67=>k65 [t67] σ)) (fun v66 σ=>A.test (h0 v66) (A.got t24 (Zj [t9] σ) fun t68=>
 A.got t24 (Xb [t68] σ) fun t69=>A.got t24 (Ya 1 [t69] σ) fun t70=>A.got t24 (Qa [t70] σ) fun t71=>A.got t24 (Qb .eql false [t71,.int .i8 0] σ) fun t72=>
 A.rd (Qc [t24,t72,.bool false] σ) fun t73=>k28 [t73] σ) (A.rd (Qb .eql false [t27,.int .i8 7] σ) fun t74=>A.test t74 (A.got t24 (Zj [t9] σ) fun t75=>
 A.got t24 (Xb [t75] σ) fun t76=>A.got t24 (Ya 1 [t76] σ) fun t77=>A.got t24 (Qa [t77] σ) fun t78=>A.got t24 (Qb .eql false [t78,.int .i8 0] σ) fun t79=>
 A.rd (Qc [t24,t79,.bool false] σ) fun t80=>A.got t80 (Zj [x0] σ) fun t81=>A.got t80 (Xb [t81] σ) fun t82=>A.got t80 (Ya 0 [t82] σ) fun t83=>
 A.got t80 (Qa [t83] σ) fun t84=>A.got t80 (Zj [t9] σ) fun t85=>A.got t80 (Xb [t85] σ) fun t86=>A.got t80 (Ya 6 [t86] σ) fun t87=>A.got t80 (Qa [t87] σ) fun t88=>
 A.got t80 (Xt true false (.bool false) [t84,t88] σ) fun t89=>A.rd (Qc [t80,t89,.bool false] σ) fun t90=>k28 [t90] σ) (A.rd (Qb .eql false [t27,.int .i8 8] σ) fun t91=>
 A.test t91 (A.got t24 (Zj [t9] σ) fun t92=>A.got t24 (Xb [t92] σ) fun t93=>A.got t24 (Ya 1 [t93] σ) fun t94=>A.got t24 (Qa [t94] σ) fun t95=>
 A.got t24 (Qb .eql false [t95,.int .i8 0] σ) fun t96=>A.rd (Qc [t24,t96,.bool false] σ) fun t97=>A.got t97 (Zj [x0] σ) fun t98=>A.got t97 (Zj [t9] σ) fun t99=>
 A.got t97 (Xb [t99] σ) fun t100=>A.got t97 (Ya 7 [t100] σ) fun t101=>A.gw t97 true (fun k=>A.call (.call 213) [t98,t101] σ k) σ fun t102 σ=>
 A.rd (Qc [t97,t102,.bool false] σ) fun t103=>A.got t103 (Zj [x0] σ) fun t104=>A.got t103 (Zj [t9] σ) fun t105=>A.got t103 (Xb [t105] σ) fun t106=>
 A.got t103 (Ya 12 [t106] σ) fun t107=>A.got t103 (Qa [t107] σ) fun t108=>A.got t103 (Zj [x2] σ) fun t109=>A.got t103 (Qb .add false [t109,jv 1] σ) fun t110=>
 A.gw t103 true (fun k=>A.call (.call 157) [t104,t108,t110] σ k) σ fun t111 σ=>A.rd (Qc [t103,t111,.bool false] σ) fun t112=>A.got t112 (Zj [x0] σ) fun t113=>
 A.got t112 (Zj [t9] σ) fun t114=>A.got t112 (Xb [t114] σ) fun t115=>A.got t112 (Ya 13 [t115] σ) fun t116=>A.got t112 (Qa [t116] σ) fun t117=>
 A.got t112 (Zj [x2] σ) fun t118=>A.got t112 (Qb .add false [t118,jv 1] σ) fun t119=>A.gw t112 true (fun k=>A.call (.call 157) [t113,t117,t119] σ k) σ fun t120 σ=>
 A.rd (Qc [t112,t120,.bool false] σ) fun t121=>k28 [t121] σ) (ret (.bool false) σ))))))))) (fun v29 σ=>A.rd (Yp .not [(h0 v29)] σ) fun t122=>A.test t122 (
 ret (.bool false) σ) (A.rd (Qb .add false [(h0 v7),jv 1] σ) fun t123=>ag6 [t123] σ))) (ret (.bool true) σ)) [jv 0] σ)
 | _=>A.stop
abbrev n157:List (Option (List Nat)):=[none,none,some [19],none,none,some [9],some [46],none,some [70],none,none,some [82],none,none,none,none]
theorem g157_ok:GOk prog GL0 157 3 g157:=gok3 (l:=n157) (by kernel_rfl) fun _ _ _ _ _ _ _=>by kernel_rfl
def g178:GFun:=fun A xs σ ret=>match xs with
 | [x0]=>
 A.wr (Zo [x0] σ) σ fun t0 σ=>A.loop (fun ag1 v2 σ=>A.rd (Ya 3 [t0] σ) fun t3=>A.rd (Qa [t3] σ) fun t4=>A.rd (Qg [t4] σ) fun t5=>A.rd (Qb .lss false [(h0 v2),t5] σ) fun t6=>
 A.test t6 (A.rd (Ya 3 [t0] σ) fun t7=>A.rd (Qa [t7] σ) fun t8=>A.rd (Xd 4 [t8,(h0 v2)] σ) fun t9=>A.rd (Ze true 4 [t9] σ) fun t10=>
 A.call (.call 76) [t10] σ fun t11 σ=>A.rd (Qb .add false [(h1 v2),t11] σ) fun t12=>A.rd (ZX [t12,jv 1073741824] σ) fun t13=>A.rd (Qb .add false [(h0 v2),jv 1] σ) fun t14=>
 ag1 [t14,t13] σ) (A.loop (fun ag15 v16 σ=>A.rd (Ya 4 [t0] σ) fun t17=>A.rd (Qa [t17] σ) fun t18=>A.rd (Qg [t18] σ) fun t19=>A.rd (Qb .lss false [(h0 v16),t19] σ) fun t20=>
 A.test t20 (A.rd (Ya 4 [t0] σ) fun t21=>A.rd (Qa [t21] σ) fun t22=>A.rd (Xd 5 [t22,(h0 v16)] σ) fun t23=>A.rd (Ze true 5 [t23] σ) fun t24=>
 A.call (.call 178) [t24] σ fun t25 σ=>A.rd (Qb .add false [(h1 v16),t25] σ) fun t26=>A.rd (ZX [t26,jv 1073741824] σ) fun t27=>A.rd (Qb .add false [(h0 v16),jv 1] σ) fun t28=>
 ag15 [t28,t27] σ) (ret (h1 v16) σ)) [jv 0,(h1 v2)] σ)) [jv 0,jv 1] σ
 | _=>A.stop
abbrev n178:List (Option (List Nat)):=[none,some [4,3],none,none,none,some [5,3],none,none]
theorem g178_ok:GOk prog GL0 178 1 g178:=gok1 (l:=n178) (by kernel_rfl) fun _ _ _ _ _=>by kernel_rfl
def g179:GFun:=fun A xs σ ret=>match xs with
 | [x0]=>
 A.wr (Yf [jv 0,jv 0] [] σ) σ fun t0 σ=>A.rd (Ya 0 [x0] σ) fun t1=>A.rd (Qa [t1] σ) fun t2=>A.call (.call 180) [t2] σ fun t3 σ=>A.wr (Zc 2 [t0,t3] σ) σ fun _ σ=>
 A.opt (cellV true 2 t0 σ) fun r4=>ret r4 σ
 | _=>A.stop
abbrev n179:List (Option (List Nat)):=[]
theorem g179_ok:GOk prog GL0 179 1 g179:=gok1 (l:=n179) (by kernel_rfl) fun _ _ _ _ _=>by kernel_rfl
def g180:GFun:=fun A xs σ ret=>match xs with
 | [x0]=>
 A.wr (Yf [jv 0,jv 0] [] σ) σ fun t0 σ=>A.rd (Qg [x0] σ) fun t1=>A.rd (Qb .gtr false [t1,jv 240] σ) fun t2=>A.test t2 (A.rd (Xg [jv 0,jv 0] [(0,1)] [jv 3] σ) fun t3=>
 A.wr (Zc 2 [t0,t3] σ) σ fun _ σ=>A.opt (cellV true 2 t0 σ) fun r4=>ret r4 σ) (A.wr (XG [] σ) σ fun t5 σ=>A.rd (Qg [x0] σ) fun t6=>A.loop (fun ag7 v8 σ=>
 A.rd (Qb .lss false [(h0 v8),t6] σ) fun t9=>A.test t9 (joinK (fun k10=>A.rd (Xd 12 [x0,(h0 v8)] σ) fun t12=>A.rd (Ze true 12 [t12] σ) fun t13=>
 A.wr (Yf [.str [],.bool false,jv 0,jv 0,jv 0,jv 0,jv 0,jv 0,.nils,.nils,.nils,jv 0] [] σ) σ fun t14 σ=>A.wr (Zc 12 [t14,t13] σ) σ fun _ σ=>
 A.rd (Ya 0 [t14] σ) fun t15=>A.rd (Qa [t15] σ) fun t16=>A.rd (Xt true true (.bool false) [t5,t16] σ) fun t17=>A.rd (Qe 0 [t17] σ) fun t18=>
 A.rd (Qe 1 [t17] σ) fun t19=>A.rd (Yp .not [t19] σ) fun t20=>A.test t20 (A.rd (Ya 0 [t14] σ) fun t21=>A.rd (Qa [t21] σ) fun t22=>A.rd (Ya 1 [t14] σ) fun t23=>
 A.rd (Qa [t23] σ) fun t24=>A.wr (ZA true [t5,t22,t24] σ) σ fun _ σ=>k10 [] σ) (k10 [] σ)) (fun v11 σ=>A.rd (Qb .add false [(h0 v8),jv 1] σ) fun t25=>
 ag7 [t25] σ)) (A.wr (XG [] σ) σ fun t26 σ=>A.rd (Qg [x0] σ) fun t27=>A.loop (fun ag28 v29 σ=>A.rd (Qb .lss false [(h0 v29),t27] σ) fun t30=>A.test t30 (
 A.rd (Xd 12 [x0,(h0 v29)] σ) fun t31=>A.rd (Xb [t31] σ) fun t32=>A.rd (Ya 0 [t32] σ) fun t33=>A.rd (Qa [t33] σ) fun t34=>A.rd (Xt true false (.bool false) [t26,t34] σ) fun t35=>
 A.test t35 (A.rd (Xb [t31] σ) fun t36=>A.rd (Ya 11 [t36] σ) fun t37=>A.rd (Qa [t37] σ) fun t38=>A.rd (Xg [jv 0,jv 0] [(0,1),(1,1)] [jv 101,t38] σ) fun t39=>
 A.wr (Zc 2 [t0,t39] σ) σ fun _ σ=>A.opt (cellV true 2 t0 σ) fun r40=>ret r40 σ) (A.call (.call 221) [t31,t5] σ fun t41 σ=>A.rd (Yp .not [t41] σ) fun t42=>
 A.test t42 (A.rd (Xb [t31] σ) fun t43=>A.rd (Ya 11 [t43] σ) fun t44=>A.rd (Qa [t44] σ) fun t45=>A.rd (Xg [jv 0,jv 0] [(0,1),(1,1)] [jv 130,t45] σ) fun t46=>
 A.wr (Zc 2 [t0,t46] σ) σ fun _ σ=>A.opt (cellV true 2 t0 σ) fun r47=>ret r47 σ) (A.rd (Xb [t31] σ) fun t48=>A.rd (Ya 0 [t48] σ) fun t49=>
 A.rd (Qa [t49] σ) fun t50=>A.wr (ZA true [t26,t50,.bool true] σ) σ fun _ σ=>A.rd (Qb .add false [(h0 v29),jv 1] σ) fun t51=>ag28 [t51] σ))) (
 A.rd (Xg [jv 0,jv 0] [] [] σ) fun t52=>A.wr (Zc 2 [t0,t52] σ) σ fun _ σ=>A.opt (cellV true 2 t0 σ) fun r53=>ret r53 σ)) [jv 0] σ)) [jv 0] σ)
 | _=>A.stop
abbrev n180:List (Option (List Nat)):=[none,none,some [18],none,some [],none,none,some [40],none,none,none,none,none]
theorem g180_ok:GOk prog GL0 180 1 g180:=gok1 (l:=n180) (by kernel_rfl) fun _ _ _ _ _=>by kernel_rfl
def g181:GFun:=fun A xs σ ret=>match xs with
 | [x0]=>
 A.wr (Yf [jv 0,jv 0] [] σ) σ fun t0 σ=>A.rd (Ya 0 [x0] σ) fun t1=>A.rd (Qa [t1] σ) fun t2=>A.call (.call 182) [t2] σ fun t3 σ=>A.wr (Zc 2 [t0,t3] σ) σ fun _ σ=>
 A.opt (cellV true 2 t0 σ) fun r4=>ret r4 σ
 | _=>A.stop
abbrev n181:List (Option (List Nat)):=[]
theorem g181_ok:GOk prog GL0 181 1 g181:=gok1 (l:=n181) (by kernel_rfl) fun _ _ _ _ _=>by kernel_rfl
def g182:GFun:=fun A xs σ ret=>match xs with
 | [x0]=>
 A.wr (Yf [jv 0,jv 0] [] σ) σ fun t0 σ=>A.rd (Xg [.int .i8 0] [(0,1)] [.int .i8 0] σ) fun t1=>A.wr (Yf [.int .i8 0] [] σ) σ fun t2 σ=>
 A.wr (Zc 1 [t2,t1] σ) σ fun _ σ=>A.rd (Qg [x0] σ) fun t3=>A.loop (fun ag4 v5 σ=>A.rd (Qb .lss false [(h0 v5),t3] σ) fun t6=>A.test t6 (A.rd (Xd 12 [x0,(h0 v5)] σ) fun t7=>
 A.rd (Ze true 12 [t7] σ) fun t8=>A.wr (Yf [.str [],.bool false,jv 0,jv 0,jv 0,jv 0,jv 0,jv 0,.nils,.nils,.nils,jv 0] [] σ) σ fun t9 σ=>
 A.wr (Zc 12 [t9,t8] σ) σ fun _ σ=>A.rd (Ze true 1 [t2] σ) fun t10=>A.rd (Ya 8 [t9] σ) fun t11=>A.rd (Qa [t11] σ) fun t12=>A.call (.call 222) [t10,t12] σ fun t13 σ=>
 A.rd (Yp .not [t13] σ) fun t14=>A.gof t14 (Ze true 1 [t2] σ) fun t15=>A.gof t14 (Ya 9 [t9] σ) fun t16=>A.gof t14 (Qa [t16] σ) fun t17=>A.gw t14 false (fun k=>A.call (.call 222) [t15,t17] σ k) σ fun t18 σ=>
 A.gof t14 (Yp .not [t18] σ) fun t19=>A.rd (Qc [t14,.bool true,t19] σ) fun t20=>A.gof t20 (Ze true 1 [t2] σ) fun t21=>A.gof t20 (Ya 10 [t9] σ) fun t22=>
 A.gof t20 (Qa [t22] σ) fun t23=>A.gw t20 false (fun k=>A.call (.call 222) [t21,t23] σ k) σ fun t24 σ=>A.gof t20 (Yp .not [t24] σ) fun t25=>A.rd (Qc [t20,.bool true,t25] σ) fun t26=>
 A.test t26 (A.rd (Ya 11 [t9] σ) fun t27=>A.rd (Qa [t27] σ) fun t28=>A.rd (Xg [jv 0,jv 0] [(0,1),(1,1)] [jv 140,t28] σ) fun t29=>
 A.wr (Zc 2 [t0,t29] σ) σ fun _ σ=>A.opt (cellV true 2 t0 σ) fun r30=>ret r30 σ) (A.rd (Qb .add false [(h0 v5),jv 1] σ) fun t31=>ag4 [t31] σ)) (A.rd (Xg [jv 0,jv 0] [] [] σ) fun t32=>
 A.wr (Zc 2 [t0,t32] σ) σ fun _ σ=>A.opt (cellV true 2 t0 σ) fun r33=>ret r33 σ)) [jv 0] σ
 | _=>A.stop
abbrev n182:List (Option (List Nat)):=[none,some [9],none,none,none]
theorem g182_ok:GOk prog GL0 182 1 g182:=gok1 (l:=n182) (by kernel_rfl) fun _ _ _ _ _=>by kernel_rfl
def g183:GFun:=fun A xs σ ret=>match xs with
 | [x0]=>
 A.wr (Yf [jv 0,jv 0] [] σ) σ fun t0 σ=>A.rd (Ze true 2 [x0] σ) fun t1=>A.call (.call 184) [t1] σ fun t2 σ=>A.wr (Zc 2 [t0,t2] σ) σ fun _ σ=>
 A.opt (cellV true 2 t0 σ) fun r3=>ret r3 σ
 | _=>A.stop
abbrev n183:List (Option (List Nat)):=[]
theorem g183_ok:GOk prog GL0 183 1 g183:=gok1 (l:=n183) (by kernel_rfl) fun _ _ _ _ _=>by kernel_rfl
def g184:GFun:=fun A xs σ ret=>match xs with
 | [x0]=>
 A.wr (Zo [x0] σ) σ fun t0 σ=>A.wr (Yf [jv 0,jv 0] [] σ) σ fun t1 σ=>A.wr (XG [] σ) σ fun t2 σ=>A.rd (Ya 1 [t0] σ) fun t3=>A.rd (Qa [t3] σ) fun t4=>
 A.rd (Qg [t4] σ) fun t5=>A.loop (fun ag6 v7 σ=>A.rd (Qb .lss false [(h0 v7),t5] σ) fun t8=>A.test t8 (A.rd (Xd 7 [t4,(h0 v7)] σ) fun t9=>A.rd (Ze true 7 [t9] σ) fun t10=>
 A.wr (Yf [.str [],jv 0,jv 0,jv 0,.nils,.nils,jv 0] [] σ) σ fun t11 σ=>A.wr (Zc 7 [t11,t10] σ) σ fun _ σ=>A.rd (Qb .lss false [(h0 v7),jv 240] σ) fun t12=>
 A.got t12 (Ya 0 [t11] σ) fun t13=>A.got t12 (Qa [t13] σ) fun t14=>A.gw t12 true (fun k=>A.call (.call 223) [t14] σ k) σ fun t15 σ=>A.rd (Qc [t12,t15,.bool false] σ) fun t16=>
 A.got t16 (Zj [t2] σ) fun t17=>A.got t16 (Ya 0 [t11] σ) fun t18=>A.got t16 (Qa [t18] σ) fun t19=>A.got t16 (Xt true false (.bool false) [t17,t19] σ) fun t20=>
 A.got t16 (Yp .not [t20] σ) fun t21=>A.rd (Qc [t16,t21,.bool false] σ) fun t22=>A.got t22 (Ya 1 [t11] σ) fun t23=>A.got t22 (Qa [t23] σ) fun t24=>
 A.got t22 (Qb .geq false [t24,jv 0] σ) fun t25=>A.rd (Qc [t22,t25,.bool false] σ) fun t26=>A.got t26 (Ya 1 [t11] σ) fun t27=>A.got t26 (Qa [t27] σ) fun t28=>
 A.got t26 (Ya 2 [t11] σ) fun t29=>A.got t26 (Qa [t29] σ) fun t30=>A.got t26 (Qb .leq false [t28,t30] σ) fun t31=>A.rd (Qc [t26,t31,.bool false] σ) fun t32=>
 A.got t32 (Ya 2 [t11] σ) fun t33=>A.got t32 (Qa [t33] σ) fun t34=>A.got t32 (Qb .leq false [t34,jv 60] σ) fun t35=>A.rd (Qc [t32,t35,.bool false] σ) fun t36=>
 A.got t36 (Ya 3 [t11] σ) fun t37=>A.got t36 (Qa [t37] σ) fun t38=>A.got t36 (Qb .geq false [t38,jv 0] σ) fun t39=>A.rd (Qc [t36,t39,.bool false] σ) fun t40=>
 A.got t40 (Ya 3 [t11] σ) fun t41=>A.got t40 (Qa [t41] σ) fun t42=>A.got t40 (Qb .leq false [t42,jv 999] σ) fun t43=>A.rd (Qc [t40,t43,.bool false] σ) fun t44=>
 A.rd (Ya 4 [t11] σ) fun t45=>A.rd (Qa [t45] σ) fun t46=>A.rd (Ya 5 [t11] σ) fun t47=>A.rd (Qa [t47] σ) fun t48=>A.rd (Xg [.nils,.nils] [(0,1),(1,1)] [t46,t48] σ) fun t49=>
 A.loop (fun ag50 v51 σ=>A.rd (Qb .lss false [(h0 v51),jv 2] σ) fun t52=>A.test t52 (A.rd (Y3 false 2 1 [t49,(h0 v51)] σ) fun t53=>A.wr (XG [] σ) σ fun t54 σ=>
 A.rd (Qg [t53] σ) fun t55=>A.loop (fun ag56 v57 σ=>A.rd (Qb .lss false [(h0 v57),t55] σ) fun t58=>A.test t58 (A.rd (Xd 1 [t53,(h0 v57)] σ) fun t59=>
 A.rd (Qa [t59] σ) fun t60=>A.rd (Ze true 2 [t0] σ) fun t61=>A.call (.call 224) [t61,t60] σ fun t62 σ=>A.rd (Qe 0 [t62] σ) fun t63=>A.rd (Qe 1 [t62] σ) fun t64=>
 A.gr (h1 v57) true (fun k=>A.rd (Zj [t64] σ) k) fun t65=>A.rd (Qc [(h1 v57),t65,.bool false] σ) fun t66=>A.got t66 (Zj [t54] σ) fun t67=>A.got t66 (Zj [t60] σ) fun t68=>
 A.got t66 (Xt true false (.bool false) [t67,t68] σ) fun t69=>A.got t66 (Yp .not [t69] σ) fun t70=>A.rd (Qc [t66,t70,.bool false] σ) fun t71=>
 A.wr (ZA true [t54,t60,.bool true] σ) σ fun _ σ=>A.rd (Qb .add false [(h0 v57),jv 1] σ) fun t72=>ag56 [t72,t71] σ) (A.rd (Qb .add false [(h0 v51),jv 1] σ) fun t73=>
 ag50 [t73,(h1 v57)] σ)) [jv 0,(h1 v51)] σ) (A.rd (Yp .not [(h1 v51)] σ) fun t74=>A.test t74 (A.rd (Ya 6 [t11] σ) fun t75=>A.rd (Qa [t75] σ) fun t76=>
 A.rd (Xg [jv 0,jv 0] [(0,1),(1,1)] [jv 151,t76] σ) fun t77=>A.wr (Zc 2 [t1,t77] σ) σ fun _ σ=>A.opt (cellV true 2 t1 σ) fun r78=>ret r78 σ) (
 A.rd (Ya 0 [t11] σ) fun t79=>A.rd (Qa [t79] σ) fun t80=>A.wr (ZA true [t2,t80,.bool true] σ) σ fun _ σ=>A.rd (Qb .add false [(h0 v7),jv 1] σ) fun t81=>
 ag6 [t81] σ))) [jv 0,t44] σ) (A.rd (Xg [jv 0,jv 0] [] [] σ) fun t82=>A.wr (Zc 2 [t1,t82] σ) σ fun _ σ=>A.opt (cellV true 2 t1 σ) fun r83=>
 ret r83 σ)) [jv 0] σ
 | _=>A.stop
abbrev n184:List (Option (List Nat)):=[none,some [18],none,none,none,some [69,6],none,none,none,some [75,6],none,none,none]
theorem g184_ok:GOk prog GL0 184 1 g184:=gok1 (l:=n184) (by kernel_rfl) fun _ _ _ _ _=>by kernel_rfl
def g185:GFun:=fun A xs σ ret=>match xs with
 | [x0,x1]=>
 A.call (.call 120) [x0,x1] σ fun t0 σ=>A.rd (Qb .geq false [t0,jv 0] σ) fun t1=>ret t1 σ
 | _=>A.stop
abbrev n185:List (Option (List Nat)):=[]
theorem g185_ok:GOk prog GL0 185 2 g185:=gok2 (l:=n185) (by kernel_rfl) fun _ _ _ _ _ _=>by kernel_rfl
def g186:GFun:=fun A xs σ ret=>match xs with
 | [x0,x1]=>
 A.rd (Qb .lss false [x0,jv 0] σ) fun t0=>A.gof t0 (Zj [x0] σ) fun t1=>A.gof t0 (Qa [x1] σ) fun t2=>A.gof t0 (Xb [t2] σ) fun t3=>A.gof t0 (Ya 0 [t3] σ) fun t4=>
 A.gof t0 (Qa [t4] σ) fun t5=>A.gof t0 (Qg [t5] σ) fun t6=>A.gof t0 (Qb .geq false [t1,t6] σ) fun t7=>A.rd (Qc [t0,.bool true,t7] σ) fun t8=>
 ret t8 σ
 | _=>A.stop
abbrev n186:List (Option (List Nat)):=[]
theorem g186_ok:GOk prog GL0 186 2 g186:=gok2 (l:=n186) (by kernel_rfl) fun _ _ _ _ _ _=>by kernel_rfl
def g187:GFun:=fun A xs σ ret=>match xs with
 | [x0]=>
 A.rd (Qb .geq false [x0,jv 0] σ) fun t0=>A.got t0 (Zj [x0] σ) fun t1=>A.got t0 (Qb .leq false [t1,jv 999] σ) fun t2=>A.rd (Qc [t0,t2,.bool false] σ) fun t3=>
 ret t3 σ
 | _=>A.stop
abbrev n187:List (Option (List Nat)):=[]
theorem g187_ok:GOk prog GL0 187 1 g187:=gok1 (l:=n187) (by kernel_rfl) fun _ _ _ _ _=>by kernel_rfl
def g188:GFun:=fun A xs σ ret=>match xs with
 | [x0,x1,x2]=>
 A.rd (Qg [x1] σ) fun t0=>A.rd (Qb .gtr false [t0,jv 16] σ) fun t1=>A.gof t1 (Zj [x2] σ) fun t2=>A.gof t1 (Qb .gtr false [t2,jv 8] σ) fun t3=>
 A.rd (Qc [t1,.bool true,t3] σ) fun t4=>A.test t4 (ret (.bool false) σ) (A.loop (fun ag5 v6 σ=>A.rd (Qg [x1] σ) fun t7=>A.rd (Qb .lss false [(h0 v6),t7] σ) fun t8=>
 A.test t8 (joinK (fun k9=>A.rd (Xd 14 [x1,(h0 v6)] σ) fun t11=>A.rd (Ze true 14 [t11] σ) fun t12=>A.wr (Yf [.int .i8 0,.int .i8 0,.int .i8 0,jv 0,.int .i8 0,.nils,.str [],.int .i8 0,.int .i8 0,.str [],.nils,.nils,.nils,.nils] [] σ) σ fun t13 σ=>
 A.wr (Zc 14 [t13,t12] σ) σ fun _ σ=>A.rd (Ya 0 [t13] σ) fun t14=>A.rd (Qa [t14] σ) fun t15=>A.rd (Qb .lss false [t15,.int .i8 0] σ) fun t16=>
 A.gof t16 (Ya 0 [t13] σ) fun t17=>A.gof t16 (Qa [t17] σ) fun t18=>A.gof t16 (Qb .gtr false [t18,.int .i8 8] σ) fun t19=>A.rd (Qc [t16,.bool true,t19] σ) fun t20=>
 A.test t20 (ret (.bool false) σ) (A.rd (Ya 0 [t13] σ) fun t21=>A.rd (Qa [t21] σ) fun t22=>A.rd (Qb .eql false [t22,.int .i8 8] σ) fun t23=>
 A.test t23 (A.rd (Ya 1 [t13] σ) fun t24=>A.rd (Qa [t24] σ) fun t25=>A.rd (Qb .neq false [t25,.int .i8 0] σ) fun t26=>A.gof t26 (Ya 2 [t13] σ) fun t27=>
 A.gof t26 (Ze true 4 [t27] σ) fun t28=>A.gw t26 false (fun k=>A.call (.call 225) [t28] σ k) σ fun t29 σ=>A.gof t26 (Yp .not [t29] σ) fun t30=>A.rd (Qc [t26,.bool true,t30] σ) fun t31=>
 A.gof t31 (Ya 6 [t13] σ) fun t32=>A.gof t31 (Qa [t32] σ) fun t33=>A.gof t31 (Qb .neq false [t33,.str []] σ) fun t34=>A.rd (Qc [t31,.bool true,t34] σ) fun t35=>
 A.gof t35 (Zj [x0] σ) fun t36=>A.gof t35 (Ya 7 [t13] σ) fun t37=>A.gof t35 (Ze true 5 [t37] σ) fun t38=>A.gw t35 false (fun k=>A.call (.call 226) [t36,t38] σ k) σ fun t39 σ=>
 A.gof t35 (Yp .not [t39] σ) fun t40=>A.rd (Qc [t35,.bool true,t40] σ) fun t41=>A.gof t41 (Zj [x0] σ) fun t42=>A.gof t41 (Ya 12 [t13] σ) fun t43=>
 A.gof t41 (Qa [t43] σ) fun t44=>A.gof t41 (Zj [x2] σ) fun t45=>A.gof t41 (Qb .add false [t45,jv 1] σ) fun t46=>A.gw t41 false (fun k=>A.call (.call 188) [t42,t44,t46] σ k) σ fun t47 σ=>
 A.gof t41 (Yp .not [t47] σ) fun t48=>A.rd (Qc [t41,.bool true,t48] σ) fun t49=>A.gof t49 (Zj [x0] σ) fun t50=>A.gof t49 (Ya 13 [t13] σ) fun t51=>
 A.gof t49 (Qa [t51] σ) fun t52=>A.gof t49 (Zj [x2] σ) fun t53=>A.gof t49 (Qb .add false [t53,jv 1] σ) fun t54=>A.gw t49 false (fun k=>A.call (.call 188) [t50,t52,t54] σ k) σ fun t55 σ=>
 A.gof t49 (Yp .not [t55] σ) fun t56=>A.rd (Qc [t49,.bool true,t56] σ) fun t57=>A.test t57 (ret (.bool false) σ) (k9 [] σ)) (A.rd (Ya 7 [t13] σ) fun t58=>
 A.rd (Ze true 5 [t58] σ) fun t59=>A.call (.call 227) [t59] σ fun t60 σ=>A.rd (Yp .not [t60] σ) fun t61=>A.gof t61 (Ya 12 [t13] σ) fun t62=>A.gof t61 (Qa [t62] σ) fun t63=>
 A.gof t61 (Qg [t63] σ) fun t64=>A.gof t61 (Qb .gtr false [t64,jv 0] σ) fun t65=>A.rd (Qc [t61,.bool true,t65] σ) fun t66=>A.gof t66 (Ya 13 [t13] σ) fun t67=>
 A.gof t66 (Qa [t67] σ) fun t68=>A.gof t66 (Qg [t68] σ) fun t69=>A.gof t66 (Qb .gtr false [t69,jv 0] σ) fun t70=>A.rd (Qc [t66,.bool true,t70] σ) fun t71=>
 A.test t71 (ret (.bool false) σ) (A.rd (Ya 0 [t13] σ) fun t72=>A.rd (Qa [t72] σ) fun t73=>A.call (.call 130) [t73] σ fun t74 σ=>A.got t74 (Zj [x0] σ) fun t75=>
 A.got t74 (Ya 2 [t13] σ) fun t76=>A.got t74 (Ze true 4 [t76] σ) fun t77=>A.gw t74 true (fun k=>A.call (.call 77) [t75,t77] σ k) σ fun t78 σ=>
 A.got t74 (Yp .not [t78] σ) fun t79=>A.rd (Qc [t74,t79,.bool false] σ) fun t80=>A.gof t80 (Ya 0 [t13] σ) fun t81=>A.gof t80 (Qa [t81] σ) fun t82=>
 A.gw t80 false (fun k=>A.call (.call 130) [t82] σ k) σ fun t83 σ=>A.gof t80 (Yp .not [t83] σ) fun t84=>A.gof t80 (Zj [t84] σ) fun t85=>A.got t85 (Ya 2 [t13] σ) fun t86=>
 A.got t85 (Ze true 4 [t86] σ) fun t87=>A.gw t85 true (fun k=>A.call (.call 225) [t87] σ k) σ fun t88 σ=>A.got t85 (Yp .not [t88] σ) fun t89=>A.gof t80 (Qc [t85,t89,.bool false] σ) fun t90=>
 A.rd (Qc [t80,.bool true,t90] σ) fun t91=>A.test t91 (ret (.bool false) σ) (A.rd (Ya 0 [t13] σ) fun t92=>A.rd (Qa [t92] σ) fun t93=>A.rd (Qb .eql false [t93,.int .i8 7] σ) fun t94=>
 A.got t94 (Zj [x0] σ) fun t95=>A.got t94 (Ya 6 [t13] σ) fun t96=>A.got t94 (Qa [t96] σ) fun t97=>A.gw t94 true (fun k=>A.call (.call 228) [t95,t97,.bool true] σ k) σ fun t98 σ=>
 A.got t94 (Yp .not [t98] σ) fun t99=>A.rd (Qc [t94,t99,.bool false] σ) fun t100=>A.gof t100 (Ya 0 [t13] σ) fun t101=>A.gof t100 (Qa [t101] σ) fun t102=>
 A.gof t100 (Qb .neq false [t102,.int .i8 7] σ) fun t103=>A.gof t100 (Zj [t103] σ) fun t104=>A.got t104 (Ya 6 [t13] σ) fun t105=>A.got t104 (Qa [t105] σ) fun t106=>
 A.got t104 (Qb .neq false [t106,.str []] σ) fun t107=>A.gof t100 (Qc [t104,t107,.bool false] σ) fun t108=>A.rd (Qc [t100,.bool true,t108] σ) fun t109=>
 A.test t109 (ret (.bool false) σ) (A.rd (Ya 1 [t13] σ) fun t110=>A.rd (Qa [t110] σ) fun t111=>A.rd (Qb .eql false [t111,.int .i8 0] σ) fun t112=>
 A.rd (Ya 0 [t13] σ) fun t113=>A.rd (Qa [t113] σ) fun t114=>A.rd (Qb .eql false [t114,.int .i8 0] σ) fun t115=>A.gof t115 (Ya 0 [t13] σ) fun t116=>
 A.gof t115 (Qa [t116] σ) fun t117=>A.gof t115 (Qb .eql false [t117,.int .i8 1] σ) fun t118=>A.rd (Qc [t115,.bool true,t118] σ) fun t119=>joinK (fun k120=>
 A.test t119 (A.rd (Ya 1 [t13] σ) fun t122=>A.rd (Qa [t122] σ) fun t123=>A.call (.call 121) [t123] σ fun t124 σ=>A.gof t124 (Ya 1 [t13] σ) fun t125=>
 A.gof t124 (Qa [t125] σ) fun t126=>A.gof t124 (Qb .eql false [t126,.int .i8 2] σ) fun t127=>A.gof t124 (Zj [t127] σ) fun t128=>A.got t128 (Zj [x0] σ) fun t129=>
 A.got t128 (Xb [t129] σ) fun t130=>A.got t128 (Ya 1 [t130] σ) fun t131=>A.got t128 (Qa [t131] σ) fun t132=>A.gof t124 (Qc [t128,t132,.bool false] σ) fun t133=>
 A.rd (Qc [t124,.bool true,t133] σ) fun t134=>k120 [t134] σ) (k120 [t112] σ)) (fun v121 σ=>A.rd (Ya 0 [t13] σ) fun t135=>A.rd (Qa [t135] σ) fun t136=>
 A.rd (Qb .eql false [t136,.int .i8 2] σ) fun t137=>A.gof t137 (Ya 0 [t13] σ) fun t138=>A.gof t137 (Qa [t138] σ) fun t139=>A.gof t137 (Qb .eql false [t139,.int .i8 4] σ) fun t140=>
 A.rd (Qc [t137,.bool true,t140] σ) fun t141=>A.gof t141 (Ya 0 [t13] σ) fun t142=>A.gof t141 (Qa [t142] σ) fun t143=>A.gof t141 (Qb .eql false [t143,.int .i8 6] σ) fun t144=>
 A.rd (Qc [t141,.bool true,t144] σ) fun t145=>joinK (fun k146=>A.test t145 (A.rd (Ya 1 [t13] σ) fun t148=>A.rd (Qa [t148] σ) fun t149=>
 A.call (.call 121) [t149] σ fun t150 σ=>k146 [t150] σ) (k146 [(h0 v121)] σ)) (fun v147 σ=>A.rd (Yp .not [(h0 v147)] σ) fun t151=>A.test t151 (ret (.bool false) σ) (
 k9 [] σ))))))))) (fun v10 σ=>A.rd (Qb .add false [(h0 v6),jv 1] σ) fun t152=>ag5 [t152] σ)) (ret (.bool true) σ)) [jv 0] σ)
 | _=>A.stop
abbrev n188:List (Option (List Nat)):=[none,none,some [7],none,some [],none,none,none,none,none,none,some [9],some [9],none]
theorem g188_ok:GOk prog GL0 188 3 g188:=gok3 (l:=n188) (by kernel_rfl) fun _ _ _ _ _ _ _=>by kernel_rfl
def g189:GFun:=fun A xs σ ret=>match xs with
 | [x0,x1]=>
 A.call (.call 190) [x0,x1] σ fun t0 σ=>A.call (.call 190) [x1,x1] σ fun t1 σ=>A.rd (Qb .eql false [t0,t1] σ) fun t2=>ret t2 σ
 | _=>A.stop
abbrev n189:List (Option (List Nat)):=[]
theorem g189_ok:GOk prog GL0 189 2 g189:=gok2 (l:=n189) (by kernel_rfl) fun _ _ _ _ _ _=>by kernel_rfl
def g190:GFun:=fun A xs σ ret=>match xs with
 | [x0,x1]=>
 A.rd (Qb .lss false [x0,.int .i8 0] σ) fun t0=>A.gof t0 (Zj [x0] σ) fun t1=>A.gof t0 (Qb .gtr false [t1,.int .i8 3] σ) fun t2=>A.rd (Qc [t0,.bool true,t2] σ) fun t3=>
 joinK (fun k4=>A.test t3 (k4 [.int .i8 3] σ) (k4 [x0] σ)) (fun v5 σ=>A.rd (Qb .lss false [x1,.int .i8 0] σ) fun t6=>A.gof t6 (Zj [x1] σ) fun t7=>A.gof t6 (Qb .gtr false [t7,.int .i8 3] σ) fun t8=>
 A.rd (Qc [t6,.bool true,t8] σ) fun t9=>joinK (fun k10=>A.test t9 (k10 [.int .i8 3] σ) (k10 [x1] σ)) (fun v11 σ=>A.rd (Qb .eql false [(h0 v5),(h0 v11)] σ) fun t12=>
 A.gof t12 (Zj [(h0 v11)] σ) fun t13=>A.gof t12 (Qb .eql false [t13,.int .i8 0] σ) fun t14=>A.rd (Qc [t12,.bool true,t14] σ) fun t15=>A.test t15 (
 ret (h0 v5) σ) (A.rd (Qb .eql false [(h0 v5),.int .i8 0] σ) fun t16=>A.test t16 (ret (h0 v11) σ) (ret (.int .i8 3) σ))))
 | _=>A.stop
abbrev n190:List (Option (List Nat)):=[some [0],some [1],none,none,none]
theorem g190_ok:GOk prog GL0 190 2 g190:=gok2 (l:=n190) (by kernel_rfl) fun _ _ _ _ _ _=>by kernel_rfl
end Go.Ah.Tz
end
section
namespace Go.Ah.Tz
open Go.Proofs.Tryz (prog)
set_option maxRecDepth 100000
def g191:GFun:=fun A xs σ ret=>match xs with
 | [x0]=>
 A.wr (Zo [x0] σ) σ fun t0 σ=>A.rd (Ya 0 [t0] σ) fun t1=>A.rd (Qa [t1] σ) fun t2=>A.rd (Qb .eql false [t2,.int .i8 6] σ) fun t3=>joinK (fun k4=>
 A.test t3 (k4 [.int .i8 3] σ) (k4 [.int .i8 0] σ)) (fun v5 σ=>A.rd (Ya 0 [t0] σ) fun t6=>A.rd (Qa [t6] σ) fun t7=>A.rd (Qb .geq false [t7,.int .i8 8] σ) fun t8=>
 A.got t8 (Ya 0 [t0] σ) fun t9=>A.got t8 (Qa [t9] σ) fun t10=>A.got t8 (Qb .leq false [t10,.int .i8 12] σ) fun t11=>A.rd (Qc [t8,t11,.bool false] σ) fun t12=>
 A.test t12 (A.loop (fun ag13 v14 σ=>A.rd (Ya 3 [t0] σ) fun t15=>A.rd (Qa [t15] σ) fun t16=>A.rd (Qg [t16] σ) fun t17=>A.rd (Qb .lss false [(h0 v14),t17] σ) fun t18=>
 A.test t18 (A.rd (Ya 3 [t0] σ) fun t19=>A.rd (Qa [t19] σ) fun t20=>A.rd (Xd 4 [t20,(h0 v14)] σ) fun t21=>A.rd (Ze true 4 [t21] σ) fun t22=>
 A.call (.call 191) [t22] σ fun t23 σ=>A.call (.call 190) [(h1 v14),t23] σ fun t24 σ=>A.rd (Qb .add false [(h0 v14),jv 1] σ) fun t25=>ag13 [t25,t24] σ) (
 ret (h1 v14) σ)) [jv 0,(h0 v5)] σ) (ret (h0 v5) σ))
 | _=>A.stop
abbrev n191:List (Option (List Nat)):=[some [3],none,none,some [4,3],none,none]
theorem g191_ok:GOk prog GL0 191 1 g191:=gok1 (l:=n191) (by kernel_rfl) fun _ _ _ _ _=>by kernel_rfl
def g192:GFun:=fun A xs σ ret=>match xs with
 | [x0]=>
 A.wr (Zo [x0] σ) σ fun t0 σ=>A.rd (Ya 0 [t0] σ) fun t1=>A.rd (Qa [t1] σ) fun t2=>A.rd (Qb .eql false [t2,.int .i8 6] σ) fun t3=>A.test t3 (
 A.rd (Ya 1 [t0] σ) fun t4=>A.rd (Qa [t4] σ) fun t5=>A.rd (Qb .eql false [t5,.int .i8 0] σ) fun t6=>A.test t6 (ret (.int .i8 1) σ) (A.rd (Qb .eql false [t5,.int .i8 1] σ) fun t7=>
 A.test t7 (ret (.int .i8 2) σ) (ret (.int .i8 3) σ))) (A.loop (fun ag8 v9 σ=>A.rd (Ya 3 [t0] σ) fun t10=>A.rd (Qa [t10] σ) fun t11=>A.rd (Qg [t11] σ) fun t12=>
 A.rd (Qb .lss false [(h0 v9),t12] σ) fun t13=>A.test t13 (A.rd (Ya 3 [t0] σ) fun t14=>A.rd (Qa [t14] σ) fun t15=>A.rd (Xd 4 [t15,(h0 v9)] σ) fun t16=>
 A.rd (Ze true 4 [t16] σ) fun t17=>A.call (.call 191) [t17] σ fun t18 σ=>A.call (.call 190) [(h1 v9),t18] σ fun t19 σ=>A.rd (Qb .add false [(h0 v9),jv 1] σ) fun t20=>
 ag8 [t20,t19] σ) (A.loop (fun ag21 v22 σ=>A.rd (Ya 4 [t0] σ) fun t23=>A.rd (Qa [t23] σ) fun t24=>A.rd (Qg [t24] σ) fun t25=>A.rd (Qb .lss false [(h0 v22),t25] σ) fun t26=>
 A.test t26 (A.rd (Ya 4 [t0] σ) fun t27=>A.rd (Qa [t27] σ) fun t28=>A.rd (Xd 5 [t28,(h0 v22)] σ) fun t29=>A.rd (Ze true 5 [t29] σ) fun t30=>
 A.call (.call 192) [t30] σ fun t31 σ=>A.call (.call 190) [(h1 v22),t31] σ fun t32 σ=>A.rd (Qb .add false [(h0 v22),jv 1] σ) fun t33=>ag21 [t33,t32] σ) (
 ret (h1 v22) σ)) [jv 0,(h1 v9)] σ)) [jv 0,.int .i8 0] σ)
 | _=>A.stop
abbrev n192:List (Option (List Nat)):=[none,none,none,none,none,some [4,3],none,none,none,some [5,3],none,none]
theorem g192_ok:GOk prog GL0 192 1 g192:=gok1 (l:=n192) (by kernel_rfl) fun _ _ _ _ _=>by kernel_rfl
def g193:GFun:=fun A xs σ ret=>match xs with
 | [x0,x1]=>
 joinK (fun k0=>A.loop (fun ag2 v3 σ=>A.rd (Qq [x0] σ) fun t4=>A.rd (Qb .lss false [(h0 v3),t4] σ) fun t5=>A.test t5 (A.call (.call 196) [x0,(h0 v3)] σ fun t6 σ=>
 A.rd (Qe 0 [t6] σ) fun t7=>A.rd (Qe 1 [t6] σ) fun t8=>A.rd (Qb .eql false [t8,jv 0] σ) fun t9=>A.gof t9 (Zj [t7] σ) fun t10=>A.gw t9 false (fun k=>A.call (.call 197) [t10] σ k) σ fun t11 σ=>
 A.gof t9 (Yp .not [t11] σ) fun t12=>A.gof t9 (Zj [t12] σ) fun t13=>A.got t13 (Zj [(h1 v3)] σ) fun t14=>A.got t13 (Qb .eql false [t14,jv 0] σ) fun t15=>
 A.got t13 (Zj [t15] σ) fun t16=>A.gof t16 (Zj [t7] σ) fun t17=>A.gw t16 false (fun k=>A.call (.call 198) [t17] σ k) σ fun t18 σ=>A.gof t16 (Yp .not [t18] σ) fun t19=>
 A.gof t16 (Zj [t19] σ) fun t20=>A.got t20 (Zj [t7] σ) fun t21=>A.got t20 (Qb .neq false [t21,jv 39] σ) fun t22=>A.gof t16 (Qc [t20,t22,.bool false] σ) fun t23=>
 A.got t13 (Qc [t16,.bool true,t23] σ) fun t24=>A.gof t9 (Qc [t13,t24,.bool false] σ) fun t25=>A.rd (Qc [t9,.bool true,t25] σ) fun t26=>
 A.test t26 (k0 [(h0 v3),(h1 v3)] σ) (A.rd (Qb .add false [(h0 v3),t8] σ) fun t27=>A.rd (Qb .add false [(h1 v3),jv 1] σ) fun t28=>ag2 [t27,t28] σ)) (
 k0 [(h0 v3),(h1 v3)] σ)) [x1,jv 0] σ) (fun v1 σ=>ret (.tup [(h0 v1),(h1 v1)]) σ)
 | _=>A.stop
abbrev n193:List (Option (List Nat)):=[some [1,6],some [1,6],none,none,none]
theorem g193_ok:GOk prog GL0 193 2 g193:=gok2 (l:=n193) (by kernel_rfl) fun _ _ _ _ _ _=>by kernel_rfl
def g194:GFun:=fun A xs σ ret=>match xs with
 | [x0]=>
 A.call (.call 229) [] σ fun t0 σ=>A.loop (fun ag1 v2 σ=>A.rd (Qg [t0] σ) fun t3=>A.rd (Qb .lss false [(h0 v2),t3] σ) fun t4=>A.test t4 (A.rd (Xd 1 [t0,(h0 v2)] σ) fun t5=>
 A.rd (Qa [t5] σ) fun t6=>A.rd (Qb .eql false [t6,x0] σ) fun t7=>A.test t7 (ret (.bool true) σ) (A.rd (Qb .add false [(h0 v2),jv 1] σ) fun t8=>
 ag1 [t8] σ)) (ret (.bool false) σ)) [jv 0] σ
 | _=>A.stop
abbrev n194:List (Option (List Nat)):=[none,some [4],none,none,none]
theorem g194_ok:GOk prog GL0 194 1 g194:=gok1 (l:=n194) (by kernel_rfl) fun _ _ _ _ _=>by kernel_rfl
def g195:GFun:=fun A xs σ ret=>match xs with
 | [x0,x1]=>
 A.wr (Zo [x0] σ) σ fun t0 σ=>A.loop (fun ag1 v2 σ=>A.rd (Ya 0 [t0] σ) fun t3=>A.rd (Qa [t3] σ) fun t4=>A.rd (Qg [t4] σ) fun t5=>A.rd (Qb .lss false [(h0 v2),t5] σ) fun t6=>
 A.test t6 (A.rd (Ya 0 [t0] σ) fun t7=>A.rd (Qa [t7] σ) fun t8=>A.rd (Xd 12 [t8,(h0 v2)] σ) fun t9=>A.rd (Ya 0 [t9] σ) fun t10=>
 A.rd (Qa [t10] σ) fun t11=>A.rd (Qb .eql false [t11,x1] σ) fun t12=>A.test t12 (ret (.tup [(h0 v2),.bool true]) σ) (A.rd (Qb .add false [(h0 v2),jv 1] σ) fun t13=>
 ag1 [t13] σ)) (ret (.tup [jv 0,.bool false]) σ)) [jv 0] σ
 | _=>A.stop
abbrev n195:List (Option (List Nat)):=[none,some [6],none,none,none]
theorem g195_ok:GOk prog GL0 195 2 g195:=gok2 (l:=n195) (by kernel_rfl) fun _ _ _ _ _ _=>by kernel_rfl
def g196:GFun:=fun A xs σ ret=>match xs with
 | [x0,x1]=>
 A.rd (Qy [x0,x1] σ) fun t0=>A.rd (Xab .i64 [t0] σ) fun t1=>A.rd (Qb .geq false [t1,jv 192] σ) fun t2=>A.got t2 (Zj [t1] σ) fun t3=>A.got t2 (Qb .lss false [t3,jv 224] σ) fun t4=>
 A.rd (Qc [t2,t4,.bool false] σ) fun t5=>joinK (fun k6=>A.test t5 (A.rd (Qb .and false [t1,jv 31] σ) fun t8=>k6 [jv 2,t8,jv 128] σ) (A.rd (Qb .geq false [t1,jv 224] σ) fun t9=>
 A.got t9 (Zj [t1] σ) fun t10=>A.got t9 (Qb .lss false [t10,jv 240] σ) fun t11=>A.rd (Qc [t9,t11,.bool false] σ) fun t12=>A.test t12 (A.rd (Qb .and false [t1,jv 15] σ) fun t13=>
 k6 [jv 3,t13,jv 2048] σ) (A.rd (Qb .geq false [t1,jv 240] σ) fun t14=>A.got t14 (Zj [t1] σ) fun t15=>A.got t14 (Qb .lss false [t15,jv 248] σ) fun t16=>
 A.rd (Qc [t14,t16,.bool false] σ) fun t17=>A.test t17 (A.rd (Qb .and false [t1,jv 7] σ) fun t18=>k6 [jv 4,t18,jv 65536] σ) (A.rd (Qb .geq false [t1,jv 128] σ) fun t19=>
 A.test t19 (ret (.tup [jv 0,jv 0]) σ) (k6 [jv 1,t1,jv 0] σ))))) (fun v7 σ=>A.loop (fun ag20 v21 σ=>A.rd (Qb .lss false [(h0 v21),(h0 v7)] σ) fun t22=>
 A.test t22 (A.rd (Qb .add false [x1,(h0 v21)] σ) fun t23=>A.rd (Qq [x0] σ) fun t24=>A.rd (Qb .geq false [t23,t24] σ) fun t25=>A.gof t25 (Zj [x0] σ) fun t26=>
 A.gof t25 (Zj [x1] σ) fun t27=>A.gof t25 (Zj [(h0 v21)] σ) fun t28=>A.gof t25 (Qb .add false [t27,t28] σ) fun t29=>A.gof t25 (Qy [t26,t29] σ) fun t30=>
 A.gof t25 (Qb .and false [t30,.int .u8 192] σ) fun t31=>A.gof t25 (Qb .neq false [t31,.int .u8 128] σ) fun t32=>A.rd (Qc [t25,.bool true,t32] σ) fun t33=>
 A.test t33 (ret (.tup [jv 0,jv 0]) σ) (A.rd (Qb .shl false [(h1 v21),.int .u64 6] σ) fun t34=>A.rd (Qb .add false [x1,(h0 v21)] σ) fun t35=>A.rd (Qy [x0,t35] σ) fun t36=>
 A.rd (Qb .and false [t36,.int .u8 63] σ) fun t37=>A.rd (Xab .i64 [t37] σ) fun t38=>A.rd (Qb .or false [t34,t38] σ) fun t39=>A.rd (Qb .add false [(h0 v21),jv 1] σ) fun t40=>
 ag20 [t40,t39] σ)) (A.rd (Qb .lss false [(h1 v21),(h2 v7)] σ) fun t41=>A.gof t41 (Zj [(h1 v21)] σ) fun t42=>A.gof t41 (Qb .gtr false [t42,jv 1114111] σ) fun t43=>
 A.rd (Qc [t41,.bool true,t43] σ) fun t44=>A.gof t44 (Zj [(h1 v21)] σ) fun t45=>A.gof t44 (Qb .geq false [t45,jv 55296] σ) fun t46=>A.gof t44 (Zj [t46] σ) fun t47=>
 A.got t47 (Zj [(h1 v21)] σ) fun t48=>A.got t47 (Qb .leq false [t48,jv 57343] σ) fun t49=>A.gof t44 (Qc [t47,t49,.bool false] σ) fun t50=>A.rd (Qc [t44,.bool true,t50] σ) fun t51=>
 A.test t51 (ret (.tup [jv 0,jv 0]) σ) (ret (.tup [(h1 v21),(h0 v7)]) σ))) [jv 1,(h1 v7)] σ)
 | _=>A.stop
abbrev n196:List (Option (List Nat)):=[some [7,8,9],none,none,none,none,some [10,8],none,none,none,none]
theorem g196_ok:GOk prog GL0 196 2 g196:=gok2 (l:=n196) (by kernel_rfl) fun _ _ _ _ _ _=>by kernel_rfl
def g197:GFun:=fun A xs σ ret=>match xs with
 | [x0]=>
 A.rd (Qb .geq false [x0,jv 97] σ) fun t0=>A.got t0 (Zj [x0] σ) fun t1=>A.got t0 (Qb .leq false [t1,jv 122] σ) fun t2=>A.rd (Qc [t0,t2,.bool false] σ) fun t3=>
 A.gof t3 (Zj [x0] σ) fun t4=>A.gof t3 (Qb .geq false [t4,jv 65] σ) fun t5=>A.gof t3 (Zj [t5] σ) fun t6=>A.got t6 (Zj [x0] σ) fun t7=>A.got t6 (Qb .leq false [t7,jv 90] σ) fun t8=>
 A.gof t3 (Qc [t6,t8,.bool false] σ) fun t9=>A.rd (Qc [t3,.bool true,t9] σ) fun t10=>A.gof t10 (Zj [x0] σ) fun t11=>A.gof t10 (Qb .geq false [t11,jv 192] σ) fun t12=>
 A.gof t10 (Zj [t12] σ) fun t13=>A.got t13 (Zj [x0] σ) fun t14=>A.got t13 (Qb .leq false [t14,jv 591] σ) fun t15=>A.gof t10 (Qc [t13,t15,.bool false] σ) fun t16=>
 A.gof t10 (Zj [t16] σ) fun t17=>A.got t17 (Zj [x0] σ) fun t18=>A.got t17 (Qb .neq false [t18,jv 215] σ) fun t19=>A.gof t10 (Qc [t17,t19,.bool false] σ) fun t20=>
 A.gof t10 (Zj [t20] σ) fun t21=>A.got t21 (Zj [x0] σ) fun t22=>A.got t21 (Qb .neq false [t22,jv 247] σ) fun t23=>A.gof t10 (Qc [t21,t23,.bool false] σ) fun t24=>
 A.rd (Qc [t10,.bool true,t24] σ) fun t25=>ret t25 σ
 | _=>A.stop
abbrev n197:List (Option (List Nat)):=[]
theorem g197_ok:GOk prog GL0 197 1 g197:=gok1 (l:=n197) (by kernel_rfl) fun _ _ _ _ _=>by kernel_rfl
def g198:GFun:=fun A xs σ ret=>match xs with
 | [x0]=>
 A.rd (Qb .geq false [x0,jv 48] σ) fun t0=>A.got t0 (Zj [x0] σ) fun t1=>A.got t0 (Qb .leq false [t1,jv 57] σ) fun t2=>A.rd (Qc [t0,t2,.bool false] σ) fun t3=>
 ret t3 σ
 | _=>A.stop
abbrev n198:List (Option (List Nat)):=[]
theorem g198_ok:GOk prog GL0 198 1 g198:=gok1 (l:=n198) (by kernel_rfl) fun _ _ _ _ _=>by kernel_rfl
def g199:GFun:=fun A xs σ ret=>match xs with
 | []=>
 A.wr (Yl 1 13 [.str [],.str [],.str [],.str [],.str [],.str [],.str [],.str [],.str [],.str [],.str [],.str [],.str []] [(0,1),(1,1),(2,1),(3,1),(4,1),(5,1),(6,1),(7,1),(8,1),(9,1),(10,1),(11,1),(12,1)] [(.str [60,61]),(.str [61,61]),(.str [123]),(.str [125]),(.str [40]),(.str [41]),(.str [47]),(.str [44]),(.str [59]),(.str [43]),(.str [45]),(.str [42]),(.str [60])] σ) σ fun t0 σ=>
 ret t0 σ
 | _=>A.stop
abbrev n199:List (Option (List Nat)):=[]
theorem g199_ok:GOk prog GL0 199 0 g199:=gok0 (l:=n199) (by kernel_rfl) fun _ _ _ _=>by kernel_rfl
def g200:GFun:=fun A xs σ ret=>match xs with
 | [x0]=>
 A.pu (Xb [x0] σ) fun t0=>A.pu (Ya 0 [t0] σ) fun t1=>A.dr (Qa [t1] σ) σ fun t2 l3 σ=>A.pu (Xb [x0] σ) fun t4=>A.pu (Ya 1 [t4] σ) fun t5=>
 A.dr (Qa [t5] σ) σ fun t6 l7 σ=>A.dr (Xd 4 [t2,t6] σ) σ fun t8 l9 σ=>A.dr (Ze true 4 [t8] σ) σ fun t10 l11 σ=>A.dr (Yf [.int .i8 0,.str [],jv 0,jv 0] [] σ) σ fun t12 l13 σ=>
 A.dr (Zc 4 [t12,t10] σ) σ fun _ l14 σ=>A.gd (Xk [[],[0],[0,1],[0,1,2],[],[4],[4,5],[4,5,6],[0,1,2,3,4,5,6,7],[0,1,2,3,4,5,6,7,8],[],[0,1,2,3,4,5,6,7,8,9,10]] [([],[]),([],[]),([],[]),l3,([],[]),([],[]),([],[]),l7,l9,l11,l13,l14]) <|
 A.call (.call 150) [x0] σ fun t15 σ=>A.rd (Yp .not [t15] σ) fun t16=>A.gof t16 (Ya 0 [t12] σ) fun t17=>A.gof t16 (Qa [t17] σ) fun t18=>A.gof t16 (Qb .neq false [t18,.int .i8 1] σ) fun t19=>
 A.rd (Qc [t16,.bool true,t19] σ) fun t20=>A.gof t20 (Ya 1 [t12] σ) fun t21=>A.gof t20 (Qa [t21] σ) fun t22=>A.gw t20 false (fun k=>A.call (.call 194) [t22] σ k) σ fun t23 σ=>
 A.rd (Qc [t20,.bool true,t23] σ) fun t24=>A.test t24 (A.call (.call 152) [x0,jv 120] σ fun t25 σ=>ret (.str []) σ) (A.rd (Xb [x0] σ) fun t26=>
 A.rd (Ya 1 [t26] σ) fun t27=>A.rd (Qa [t27] σ) fun t28=>A.rd (Qb .add false [t28,jv 1] σ) fun t29=>A.rd (Xb [x0] σ) fun t30=>A.rd (Ya 1 [t30] σ) fun t31=>
 A.wr (Zc 1 [t31,t29] σ) σ fun _ σ=>A.rd (Ya 1 [t12] σ) fun t32=>A.rd (Qa [t32] σ) fun t33=>ret t33 σ)
 | _=>A.stop
abbrev n200:List (Option (List Nat)):=[none]
theorem g200_ok:GOk prog GL0 200 1 g200:=gok1 (l:=n200) (by kernel_rfl) fun _ _ _ _ _=>by kernel_rfl
def g201:GFun:=fun A xs σ ret=>match xs with
 | [x0,x1]=>
 A.call (.call 151) [x0,x1] σ fun t0 σ=>A.rd (Yp .not [t0] σ) fun t1=>A.test t1 (ret (.bool false) σ) (A.rd (Xb [x0] σ) fun t2=>A.rd (Ya 1 [t2] σ) fun t3=>
 A.rd (Qa [t3] σ) fun t4=>A.rd (Qb .add false [t4,jv 1] σ) fun t5=>A.rd (Xb [x0] σ) fun t6=>A.rd (Ya 1 [t6] σ) fun t7=>A.wr (Zc 1 [t7,t5] σ) σ fun _ σ=>
 ret (.bool true) σ)
 | _=>A.stop
abbrev n201:List (Option (List Nat)):=[none]
theorem g201_ok:GOk prog GL0 201 2 g201:=gok2 (l:=n201) (by kernel_rfl) fun _ _ _ _ _ _=>by kernel_rfl
def g202:GFun:=fun A xs σ ret=>match xs with
 | [x0]=>
 A.pu (Xb [x0] σ) fun t0=>A.pu (Ya 0 [t0] σ) fun t1=>A.dr (Qa [t1] σ) σ fun t2 l3 σ=>A.pu (Xb [x0] σ) fun t4=>A.pu (Ya 1 [t4] σ) fun t5=>
 A.dr (Qa [t5] σ) σ fun t6 l7 σ=>A.dr (Xd 4 [t2,t6] σ) σ fun t8 l9 σ=>A.dr (Ze true 4 [t8] σ) σ fun t10 l11 σ=>A.dr (Yf [.int .i8 0,.str [],jv 0,jv 0] [] σ) σ fun t12 l13 σ=>
 A.dr (Zc 4 [t12,t10] σ) σ fun _ l14 σ=>A.gd (Xk [[],[0],[0,1],[0,1,2],[],[4],[4,5],[4,5,6],[0,1,2,3,4,5,6,7],[0,1,2,3,4,5,6,7,8],[],[0,1,2,3,4,5,6,7,8,9,10]] [([],[]),([],[]),([],[]),l3,([],[]),([],[]),([],[]),l7,l9,l11,l13,l14]) <|
 A.call (.call 150) [x0] σ fun t15 σ=>A.rd (Yp .not [t15] σ) fun t16=>A.gof t16 (Ya 0 [t12] σ) fun t17=>A.gof t16 (Qa [t17] σ) fun t18=>A.gof t16 (Qb .neq false [t18,.int .i8 2] σ) fun t19=>
 A.rd (Qc [t16,.bool true,t19] σ) fun t20=>A.test t20 (A.call (.call 152) [x0,jv 120] σ fun t21 σ=>ret (jv 0) σ) (A.rd (Xb [x0] σ) fun t22=>
 A.rd (Ya 1 [t22] σ) fun t23=>A.rd (Qa [t23] σ) fun t24=>A.rd (Qb .add false [t24,jv 1] σ) fun t25=>A.rd (Xb [x0] σ) fun t26=>A.rd (Ya 1 [t26] σ) fun t27=>
 A.wr (Zc 1 [t27,t25] σ) σ fun _ σ=>A.rd (Ya 2 [t12] σ) fun t28=>A.rd (Qa [t28] σ) fun t29=>ret t29 σ)
 | _=>A.stop
abbrev n202:List (Option (List Nat)):=[none]
theorem g202_ok:GOk prog GL0 202 1 g202:=gok1 (l:=n202) (by kernel_rfl) fun _ _ _ _ _=>by kernel_rfl
def g203:GFun:=fun A xs σ ret=>match xs with
 | [x0,x1]=>
 A.call (.call 201) [x0,x1] σ fun t0 σ=>A.rd (Yp .not [t0] σ) fun t1=>A.test t1 (A.call (.call 152) [x0,jv 120] σ fun t2 σ=>ret (.tup []) σ) (ret (.tup []) σ)
 | _=>A.stop
abbrev n203:List (Option (List Nat)):=[none]
theorem g203_ok:GOk prog GL0 203 2 g203:=gok2 (l:=n203) (by kernel_rfl) fun _ _ _ _ _ _=>by kernel_rfl
def g204:GFun:=fun A xs σ ret=>match xs with
 | [x0,x1,x2]=>
 A.loop (fun ag0 v1 σ=>A.rd (Qg [x1] σ) fun t2=>A.rd (Qb .lss false [(h0 v1),t2] σ) fun t3=>A.test t3 (joinK (fun k4=>A.rd (Xd 1 [x1,(h0 v1)] σ) fun t6=>
 A.rd (Qa [t6] σ) fun t7=>A.rd (Qb .eql false [t7,x2] σ) fun t8=>A.test t8 (A.call (.call 152) [x0,jv 101] σ fun t9 σ=>k4 [] σ) (k4 [] σ)) (fun v5 σ=>
 A.rd (Qb .add false [(h0 v1),jv 1] σ) fun t10=>ag0 [t10] σ)) (A.wr (Yl 1 1 [.str []] [(0,1)] [x2] σ) σ fun t11 σ=>A.wr (Yk 1 16 [x1,t11] σ) σ fun t12 σ=>
 ret t12 σ)) [jv 0] σ
 | _=>A.stop
abbrev n204:List (Option (List Nat)):=[none,some [7],none,some [],none]
theorem g204_ok:GOk prog GL0 204 3 g204:=gok3 (l:=n204) (by kernel_rfl) fun _ _ _ _ _ _ _=>by kernel_rfl
def g205:GFun:=fun A xs σ ret=>match xs with
 | [x0]=>
 A.call (.call 203) [x0,(.str [123])] σ fun t0 σ=>A.loop (fun ag1 v2 σ=>A.call (.call 150) [x0] σ fun t3 σ=>A.got t3 (Zj [x0] σ) fun t4=>A.gw t3 true (fun k=>A.call (.call 151) [t4,(.str [125])] σ k) σ fun t5 σ=>
 A.got t3 (Yp .not [t5] σ) fun t6=>A.rd (Qc [t3,t6,.bool false] σ) fun t7=>A.test t7 (A.call (.call 230) [x0] σ fun t8 σ=>A.wr (Yf [.int .i8 0,.int .i8 0,.int .i8 0,jv 0,.int .i8 0,.nils,.str [],.int .i8 0,.int .i8 0,.str [],.nils,.nils,.nils,.nils] [] σ) σ fun t9 σ=>
 A.wr (Zc 14 [t9,t8] σ) σ fun _ σ=>A.rd (Ze true 14 [t9] σ) fun t10=>A.wr (Yl 14 1 [.int .i8 0,.int .i8 0,.int .i8 0,jv 0,.int .i8 0,.nils,.str [],.int .i8 0,.int .i8 0,.str [],.nils,.nils,.nils,.nils] [(0,14)] [t10] σ) σ fun t11 σ=>
 A.wr (Yk 14 192 [(h0 v2),t11] σ) σ fun t12 σ=>ag1 [t12] σ) (A.call (.call 203) [x0,(.str [125])] σ fun t13 σ=>ret (h0 v2) σ)) [.nils] σ
 | _=>A.stop
abbrev n205:List (Option (List Nat)):=[none,some [3],none,none]
theorem g205_ok:GOk prog GL0 205 1 g205:=gok1 (l:=n205) (by kernel_rfl) fun _ _ _ _ _=>by kernel_rfl
def g206:GFun:=fun A xs σ ret=>match xs with
 | [x0]=>
 A.loop (fun ag0 v1 σ=>A.rd (Qg [x0] σ) fun t2=>A.rd (Qb .lss false [(h0 v1),t2] σ) fun t3=>A.test t3 (joinK (fun k4=>A.rd (Xd 14 [x0,(h0 v1)] σ) fun t6=>
 A.rd (Ze true 14 [t6] σ) fun t7=>A.wr (Yf [.int .i8 0,.int .i8 0,.int .i8 0,jv 0,.int .i8 0,.nils,.str [],.int .i8 0,.int .i8 0,.str [],.nils,.nils,.nils,.nils] [] σ) σ fun t8 σ=>
 A.wr (Zc 14 [t8,t7] σ) σ fun _ σ=>A.rd (Qb .add false [(h1 v1),jv 1] σ) fun t9=>A.rd (Ya 0 [t8] σ) fun t10=>A.rd (Qa [t10] σ) fun t11=>
 A.rd (Qb .eql false [t11,.int .i8 0] σ) fun t12=>joinK (fun k13=>A.test t12 (k13 [t12] σ) (A.rd (Qb .eql false [t11,.int .i8 1] σ) fun t15=>A.test t15 (
 k13 [t15] σ) (A.rd (Qb .eql false [t11,.int .i8 2] σ) fun t16=>A.test t16 (k13 [t16] σ) (A.rd (Qb .eql false [t11,.int .i8 3] σ) fun t17=>A.test t17 (
 k13 [t17] σ) (A.rd (Qb .eql false [t11,.int .i8 5] σ) fun t18=>k13 [t18] σ))))) (fun v14 σ=>A.test (h0 v14) (A.rd (Ya 2 [t8] σ) fun t19=>A.rd (Ze true 4 [t19] σ) fun t20=>
 A.call (.call 231) [t20] σ fun t21 σ=>A.rd (Qb .add false [t9,t21] σ) fun t22=>k4 [t22] σ) (A.rd (Qb .eql false [t11,.int .i8 8] σ) fun t23=>A.test t23 (
 A.pu (Ya 7 [t8] σ) fun t24=>A.dr (Ze true 5 [t24] σ) σ fun t25 l26 σ=>A.dcall (.call 232) [t25] σ fun t27 l28 σ=>A.pu (Qb .add false [t9,t27] σ) fun t29=>
 A.pu (Ya 12 [t8] σ) fun t30=>A.dr (Qa [t30] σ) σ fun t31 l32 σ=>A.dcall (.call 206) [t31] σ fun t33 l34 σ=>A.pu (Qb .add false [t29,t33] σ) fun t35=>
 A.pu (Ya 13 [t8] σ) fun t36=>A.dr (Qa [t36] σ) σ fun t37 l38 σ=>A.dcall (.call 206) [t37] σ fun t39 l40 σ=>A.pu (Qb .add false [t35,t39] σ) fun t41=>
 A.gd (Xk [[],[],[1],[1,2],[0,1,2,3],[],[5],[1,2,3,5,6],[0,1,2,3,4,5,6,7],[],[9],[1,2,3,5,6,7,9,10],[0,1,2,3,4,5,6,7,8,9,10,11],[0,1,2,3,4,5,6,7,8,9,10,11,12]] [([],[]),([],[]),l26,l28,([],[]),([],[]),l32,l34,([],[]),([],[]),l38,l40,([],[]),([],[])]) <|
 k4 [t41] σ) (k4 [t9] σ)))) (fun v5 σ=>A.rd (Qb .add false [(h0 v1),jv 1] σ) fun t42=>ag0 [t42,(h0 v5)] σ)) (ret (h1 v1) σ)) [jv 0,jv 0] σ
 | _=>A.stop
abbrev n206:List (Option (List Nat)):=[none,some [4,3],none,some [3],none,some [20],none,none,none,none,none]
theorem g206_ok:GOk prog GL0 206 1 g206:=gok1 (l:=n206) (by kernel_rfl) fun _ _ _ _ _=>by kernel_rfl
def g207:GFun:=fun A xs σ ret=>match xs with
 | [x0]=>
 A.call (.call 200) [x0] σ fun t0 σ=>A.wr (Yl 1 1 [.str []] [(0,1)] [t0] σ) σ fun t1 σ=>A.loop (fun ag2 v3 σ=>A.call (.call 201) [x0,(.str [44])] σ fun t4 σ=>
 A.test t4 (A.call (.call 200) [x0] σ fun t5 σ=>A.wr (Yl 1 1 [.str []] [(0,1)] [t5] σ) σ fun t6 σ=>A.wr (Yk 1 16 [(h0 v3),t6] σ) σ fun t7 σ=>ag2 [t7] σ) (
 ret (h0 v3) σ)) [t1] σ
 | _=>A.stop
abbrev n207:List (Option (List Nat)):=[none,some [4],none,none]
theorem g207_ok:GOk prog GL0 207 1 g207:=gok1 (l:=n207) (by kernel_rfl) fun _ _ _ _ _=>by kernel_rfl
def g208:GFun:=fun A xs σ ret=>match xs with
 | [x0,x1]=>
 A.call .callv [x1,x0] σ fun t0 σ=>A.rd (Yp .not [t0] σ) fun t1=>A.test t1 (ret (.bool false) σ) (joinK (fun k2=>A.rd (Q4 272 true (.agg [.nilp]) [x0] σ) fun t4=>
 A.rd (Qe 1 [t4] σ) fun t5=>A.rd (Qe 0 [t4] σ) fun t6=>A.test t5 (A.wr (Yf [.nilp] [] σ) σ fun t7 σ=>A.wr (Zc 1 [t7,t6] σ) σ fun _ σ=>
 A.rd (Ya 0 [t7] σ) fun t8=>A.rd (Qa [t8] σ) fun t9=>A.rd (Xb [t9] σ) fun t10=>A.rd (Ya 0 [t10] σ) fun t11=>A.rd (Qa [t11] σ) fun t12=>
 A.call (.call 210) [t12] σ fun t13 σ=>joinK (fun k14=>A.test t13 (A.rd (Ya 0 [t7] σ) fun t16=>A.rd (Qa [t16] σ) fun t17=>A.rd (Xb [t17] σ) fun t18=>
 A.rd (Ya 2 [t18] σ) fun t19=>A.rd (Xg [.nilp] [(0,1)] [t19] σ) fun t20=>A.rd (Xz 290 [t20] σ) fun t21=>A.wr (Yl 1 1 [.nili] [(0,1)] [t21] σ) σ fun t22 σ=>
 A.wr (Yk 1 16 [.nils,t22] σ) σ fun t23 σ=>k14 [t23] σ) (k14 [.nils] σ)) (fun v15 σ=>A.rd (Ya 0 [t7] σ) fun t24=>A.rd (Qa [t24] σ) fun t25=>
 A.rd (Xb [t25] σ) fun t26=>A.rd (Ya 0 [t26] σ) fun t27=>A.rd (Qa [t27] σ) fun t28=>A.rd (Qb .eql false [t28,.int .i8 8] σ) fun t29=>
 A.test t29 (A.rd (Ya 0 [t7] σ) fun t30=>A.rd (Qa [t30] σ) fun t31=>A.rd (Xb [t31] σ) fun t32=>A.rd (Ya 7 [t32] σ) fun t33=>A.rd (Xg [.nilp] [(0,1)] [t33] σ) fun t34=>
 A.rd (Xz 292 [t34] σ) fun t35=>A.wr (Yl 1 1 [.nili] [(0,1)] [t35] σ) σ fun t36 σ=>A.wr (Yk 1 16 [(h0 v15),t36] σ) σ fun t37 σ=>A.rd (Ya 0 [t7] σ) fun t38=>
 A.rd (Qa [t38] σ) fun t39=>A.rd (Xb [t39] σ) fun t40=>A.rd (Ya 12 [t40] σ) fun t41=>A.rd (Qa [t41] σ) fun t42=>A.rd (Ya 0 [t7] σ) fun t43=>
 A.rd (Qa [t43] σ) fun t44=>A.rd (Xb [t44] σ) fun t45=>A.rd (Ya 13 [t45] σ) fun t46=>A.rd (Qa [t46] σ) fun t47=>A.rd (Xg [.nils,.nils] [(0,1),(1,1)] [t42,t47] σ) fun t48=>
 A.loop (fun ag49 v50 σ=>A.rd (Qb .lss false [(h0 v50),jv 2] σ) fun t51=>A.test t51 (A.rd (Y3 false 2 1 [t48,(h0 v50)] σ) fun t52=>A.rd (Qg [t52] σ) fun t53=>
 A.loop (fun ag54 v55 σ=>A.rd (Qb .lss false [(h0 v55),t53] σ) fun t56=>A.test t56 (A.rd (Xd 14 [t52,(h0 v55)] σ) fun t57=>A.rd (Xg [.nilp] [(0,1)] [t57] σ) fun t58=>
 A.rd (Xz 272 [t58] σ) fun t59=>A.wr (Yl 1 1 [.nili] [(0,1)] [t59] σ) σ fun t60 σ=>A.wr (Yk 1 16 [(h1 v55),t60] σ) σ fun t61 σ=>A.rd (Qb .add false [(h0 v55),jv 1] σ) fun t62=>
 ag54 [t62,t61] σ) (A.rd (Qb .add false [(h0 v50),jv 1] σ) fun t63=>ag49 [t63,(h1 v55)] σ)) [jv 0,(h1 v50)] σ) (k2 [(h1 v50)] σ)) [jv 0,t37] σ) (k2 [(h0 v15)] σ))) (
 A.rd (Q4 290 true (.agg [.nilp]) [x0] σ) fun t64=>A.rd (Qe 1 [t64] σ) fun t65=>A.rd (Qe 0 [t64] σ) fun t66=>A.test t65 (A.wr (Yf [.nilp] [] σ) σ fun t67 σ=>
 A.wr (Zc 1 [t67,t66] σ) σ fun _ σ=>A.rd (Ya 0 [t67] σ) fun t68=>A.rd (Qa [t68] σ) fun t69=>A.rd (Xb [t69] σ) fun t70=>A.rd (Ya 3 [t70] σ) fun t71=>
 A.rd (Qa [t71] σ) fun t72=>A.rd (Qg [t72] σ) fun t73=>A.loop (fun ag74 v75 σ=>A.rd (Qb .lss false [(h0 v75),t73] σ) fun t76=>A.test t76 (A.rd (Ya 0 [t67] σ) fun t77=>
 A.rd (Qa [t77] σ) fun t78=>A.rd (Xb [t78] σ) fun t79=>A.rd (Ya 3 [t79] σ) fun t80=>A.rd (Qa [t80] σ) fun t81=>A.rd (Xd 4 [t81,(h0 v75)] σ) fun t82=>
 A.rd (Xg [.nilp] [(0,1)] [t82] σ) fun t83=>A.rd (Xz 290 [t83] σ) fun t84=>A.wr (Yl 1 1 [.nili] [(0,1)] [t84] σ) σ fun t85 σ=>A.wr (Yk 1 16 [(h1 v75),t85] σ) σ fun t86 σ=>
 A.rd (Qb .add false [(h0 v75),jv 1] σ) fun t87=>ag74 [t87,t86] σ) (k2 [(h1 v75)] σ)) [jv 0,.nils] σ) (A.rd (Q4 292 true (.agg [.nilp]) [x0] σ) fun t88=>
 A.rd (Qe 1 [t88] σ) fun t89=>A.rd (Qe 0 [t88] σ) fun t90=>A.test t89 (A.wr (Yf [.nilp] [] σ) σ fun t91 σ=>A.wr (Zc 1 [t91,t90] σ) σ fun _ σ=>
 A.rd (Ya 0 [t91] σ) fun t92=>A.rd (Qa [t92] σ) fun t93=>A.rd (Xb [t93] σ) fun t94=>A.rd (Ya 3 [t94] σ) fun t95=>A.rd (Qa [t95] σ) fun t96=>
 A.rd (Qg [t96] σ) fun t97=>A.loop (fun ag98 v99 σ=>A.rd (Qb .lss false [(h0 v99),t97] σ) fun t100=>A.test t100 (A.rd (Ya 0 [t91] σ) fun t101=>
 A.rd (Qa [t101] σ) fun t102=>A.rd (Xb [t102] σ) fun t103=>A.rd (Ya 3 [t103] σ) fun t104=>A.rd (Qa [t104] σ) fun t105=>A.rd (Xd 4 [t105,(h0 v99)] σ) fun t106=>
 A.rd (Xg [.nilp] [(0,1)] [t106] σ) fun t107=>A.rd (Xz 290 [t107] σ) fun t108=>A.wr (Yl 1 1 [.nili] [(0,1)] [t108] σ) σ fun t109 σ=>A.wr (Yk 1 16 [(h1 v99),t109] σ) σ fun t110 σ=>
 A.rd (Qb .add false [(h0 v99),jv 1] σ) fun t111=>ag98 [t111,t110] σ) (A.rd (Ya 0 [t91] σ) fun t112=>A.rd (Qa [t112] σ) fun t113=>A.rd (Xb [t113] σ) fun t114=>
 A.rd (Ya 4 [t114] σ) fun t115=>A.rd (Qa [t115] σ) fun t116=>A.rd (Qg [t116] σ) fun t117=>A.loop (fun ag118 v119 σ=>A.rd (Qb .lss false [(h0 v119),t117] σ) fun t120=>
 A.test t120 (A.rd (Ya 0 [t91] σ) fun t121=>A.rd (Qa [t121] σ) fun t122=>A.rd (Xb [t122] σ) fun t123=>A.rd (Ya 4 [t123] σ) fun t124=>
 A.rd (Qa [t124] σ) fun t125=>A.rd (Xd 5 [t125,(h0 v119)] σ) fun t126=>A.rd (Xg [.nilp] [(0,1)] [t126] σ) fun t127=>A.rd (Xz 292 [t127] σ) fun t128=>
 A.wr (Yl 1 1 [.nili] [(0,1)] [t128] σ) σ fun t129 σ=>A.wr (Yk 1 16 [(h1 v119),t129] σ) σ fun t130 σ=>A.rd (Qb .add false [(h0 v119),jv 1] σ) fun t131=>
 ag118 [t131,t130] σ) (k2 [(h1 v119)] σ)) [jv 0,(h1 v99)] σ)) [jv 0,.nils] σ) (k2 [.nils] σ)))) (fun v3 σ=>A.rd (Qg [(h0 v3)] σ) fun t132=>A.loop (fun ag133 v134 σ=>
 A.rd (Qb .lss false [(h0 v134),t132] σ) fun t135=>A.test t135 (A.rd (Xd 1 [(h0 v3),(h0 v134)] σ) fun t136=>A.rd (Qa [t136] σ) fun t137=>A.call (.call 208) [t137,x1] σ fun t138 σ=>
 A.rd (Yp .not [t138] σ) fun t139=>A.test t139 (ret (.bool false) σ) (A.rd (Qb .add false [(h0 v134),jv 1] σ) fun t140=>ag133 [t140] σ)) (ret (.bool true) σ)) [jv 0] σ))
 | _=>A.stop
abbrev n208:List (Option (List Nat)):=[none,some [5],none,some [5],none,none,some [66,5],none,none,none,some [71,5],none,none,none,none,some [93,5],none,none,none,none,some [118,5],none,none,none,some [140,5],none,none,none,some [158],none,none,none]
theorem g208_ok:GOk prog GL0 208 2 g208:=gok2 (l:=n208) (by kernel_rfl) fun _ _ _ _ _ _=>by kernel_rfl
def g209:GFun:=fun A xs σ ret=>match xs with
 | [x0]=>
 A.rd (Xb [x0] σ) fun t0=>A.rd (Ya 0 [t0] σ) fun t1=>A.rd (Qa [t1] σ) fun t2=>A.call (.call 210) [t2] σ fun t3 σ=>A.gof t3 (Zj [x0] σ) fun t4=>
 A.gof t3 (Xb [t4] σ) fun t5=>A.gof t3 (Ya 2 [t5] σ) fun t6=>A.gof t3 (Ya 0 [t6] σ) fun t7=>A.gof t3 (Qa [t7] σ) fun t8=>A.gof t3 (Qb .eql false [t8,.int .i8 0] σ) fun t9=>
 A.gof t3 (Zj [t9] σ) fun t10=>A.got t10 (Zj [x0] σ) fun t11=>A.got t10 (Xb [t11] σ) fun t12=>A.got t10 (Ya 2 [t12] σ) fun t13=>A.got t10 (Ya 1 [t13] σ) fun t14=>
 A.got t10 (Qa [t14] σ) fun t15=>A.got t10 (Qb .eql false [t15,jv 0] σ) fun t16=>A.gof t3 (Qc [t10,t16,.bool false] σ) fun t17=>A.gof t3 (Zj [t17] σ) fun t18=>
 A.got t18 (Zj [x0] σ) fun t19=>A.got t18 (Xb [t19] σ) fun t20=>A.got t18 (Ya 2 [t20] σ) fun t21=>A.got t18 (Ya 2 [t21] σ) fun t22=>
 A.got t18 (Qa [t22] σ) fun t23=>A.got t18 (Qb .eql false [t23,.int .i8 0] σ) fun t24=>A.gof t3 (Qc [t18,t24,.bool false] σ) fun t25=>A.gof t3 (Zj [t25] σ) fun t26=>
 A.got t26 (Zj [x0] σ) fun t27=>A.got t26 (Xb [t27] σ) fun t28=>A.got t26 (Ya 2 [t28] σ) fun t29=>A.got t26 (Ya 3 [t29] σ) fun t30=>
 A.got t26 (Qa [t30] σ) fun t31=>A.got t26 (Qg [t31] σ) fun t32=>A.got t26 (Qb .eql false [t32,jv 0] σ) fun t33=>A.gof t3 (Qc [t26,t33,.bool false] σ) fun t34=>
 A.rd (Qc [t3,.bool true,t34] σ) fun t35=>A.rd (Xb [x0] σ) fun t36=>A.rd (Ya 0 [t36] σ) fun t37=>A.rd (Qa [t37] σ) fun t38=>A.rd (Qb .eql false [t38,.int .i8 7] σ) fun t39=>
 A.gof t39 (Zj [x0] σ) fun t40=>A.gof t39 (Xb [t40] σ) fun t41=>A.gof t39 (Ya 6 [t41] σ) fun t42=>A.gof t39 (Qa [t42] σ) fun t43=>A.gof t39 (Qb .eql false [t43,.str []] σ) fun t44=>
 A.rd (Qc [t39,.bool true,t44] σ) fun t45=>A.rd (Xb [x0] σ) fun t46=>A.rd (Ya 7 [t46] σ) fun t47=>A.rd (Xb [x0] σ) fun t48=>
 A.rd (Ya 0 [t48] σ) fun t49=>A.rd (Qa [t49] σ) fun t50=>A.rd (Qb .eql false [t50,.int .i8 8] σ) fun t51=>A.gof t51 (Zj [t47] σ) fun t52=>
 A.gof t51 (Xb [t52] σ) fun t53=>A.gof t51 (Ya 0 [t53] σ) fun t54=>A.gof t51 (Qa [t54] σ) fun t55=>A.gof t51 (Qb .eql false [t55,.int .i8 0] σ) fun t56=>
 A.gof t51 (Zj [t56] σ) fun t57=>A.got t57 (Zj [t47] σ) fun t58=>A.got t57 (Xb [t58] σ) fun t59=>A.got t57 (Ya 1 [t59] σ) fun t60=>A.got t57 (Qa [t60] σ) fun t61=>
 A.got t57 (Qb .eql false [t61,.int .i8 0] σ) fun t62=>A.gof t51 (Qc [t57,t62,.bool false] σ) fun t63=>A.gof t51 (Zj [t63] σ) fun t64=>A.got t64 (Zj [t47] σ) fun t65=>
 A.got t64 (Xb [t65] σ) fun t66=>A.got t64 (Ya 2 [t66] σ) fun t67=>A.got t64 (Qa [t67] σ) fun t68=>A.got t64 (Qb .eql false [t68,.str []] σ) fun t69=>
 A.gof t51 (Qc [t64,t69,.bool false] σ) fun t70=>A.gof t51 (Zj [t70] σ) fun t71=>A.got t71 (Zj [t47] σ) fun t72=>A.got t71 (Xb [t72] σ) fun t73=>
 A.got t71 (Ya 3 [t73] σ) fun t74=>A.got t71 (Qa [t74] σ) fun t75=>A.got t71 (Qg [t75] σ) fun t76=>A.got t71 (Zj [t47] σ) fun t77=>A.got t71 (Xb [t77] σ) fun t78=>
 A.got t71 (Ya 4 [t78] σ) fun t79=>A.got t71 (Qa [t79] σ) fun t80=>A.got t71 (Qg [t80] σ) fun t81=>A.got t71 (Qb .add false [t76,t81] σ) fun t82=>
 A.got t71 (Zj [x0] σ) fun t83=>A.got t71 (Xb [t83] σ) fun t84=>A.got t71 (Ya 12 [t84] σ) fun t85=>A.got t71 (Qa [t85] σ) fun t86=>A.got t71 (Qg [t86] σ) fun t87=>
 A.got t71 (Qb .add false [t82,t87] σ) fun t88=>A.got t71 (Zj [x0] σ) fun t89=>A.got t71 (Xb [t89] σ) fun t90=>A.got t71 (Ya 13 [t90] σ) fun t91=>
 A.got t71 (Qa [t91] σ) fun t92=>A.got t71 (Qg [t92] σ) fun t93=>A.got t71 (Qb .add false [t88,t93] σ) fun t94=>A.got t71 (Qb .eql false [t94,jv 0] σ) fun t95=>
 A.gof t51 (Qc [t71,t95,.bool false] σ) fun t96=>A.rd (Qc [t51,.bool true,t96] σ) fun t97=>A.got t35 (Zj [t45] σ) fun t98=>A.rd (Qc [t35,t98,.bool false] σ) fun t99=>
 A.got t99 (Zj [t97] σ) fun t100=>A.rd (Qc [t99,t100,.bool false] σ) fun t101=>ret t101 σ
 | _=>A.stop
abbrev n209:List (Option (List Nat)):=[]
theorem g209_ok:GOk prog GL0 209 1 g209:=gok1 (l:=n209) (by kernel_rfl) fun _ _ _ _ _=>by kernel_rfl
def g210:GFun:=fun A xs σ ret=>match xs with
 | [x0]=>
 A.rd (Qb .eql false [x0,.int .i8 0] σ) fun t0=>joinK (fun k1=>A.test t0 (k1 [t0] σ) (A.rd (Qb .eql false [x0,.int .i8 1] σ) fun t3=>A.test t3 (k1 [t3] σ) (
 A.rd (Qb .eql false [x0,.int .i8 2] σ) fun t4=>A.test t4 (k1 [t4] σ) (A.rd (Qb .eql false [x0,.int .i8 3] σ) fun t5=>A.test t5 (k1 [t5] σ) (A.rd (Qb .eql false [x0,.int .i8 5] σ) fun t6=>
 k1 [t6] σ))))) (fun v2 σ=>A.test (h0 v2) (ret (.bool true) σ) (ret (.bool false) σ))
 | _=>A.stop
abbrev n210:List (Option (List Nat)):=[none,some [4],none,none,none,none]
theorem g210_ok:GOk prog GL0 210 1 g210:=gok1 (l:=n210) (by kernel_rfl) fun _ _ _ _ _=>by kernel_rfl
def g211:GFun:=fun A xs σ ret=>match xs with
 | [x0,x1]=>
 A.rd (Xb [x1] σ) fun t0=>A.rd (Ya 1 [t0] σ) fun t1=>A.rd (Qa [t1] σ) fun t2=>A.rd (Qb .eql false [t2,jv 0] σ) fun t3=>A.rd (Xb [x1] σ) fun t4=>
 A.rd (Ya 2 [t4] σ) fun t5=>A.rd (Qa [t5] σ) fun t6=>A.rd (Qb .eql false [t6,.int .i8 0] σ) fun t7=>A.rd (Xb [x1] σ) fun t8=>A.rd (Ya 0 [t8] σ) fun t9=>
 A.rd (Qa [t9] σ) fun t10=>joinK (fun k11=>A.rd (Qb .eql false [t10,.int .i8 0] σ) fun t13=>A.test t13 (A.rd (Xb [x1] σ) fun t14=>A.rd (Ya 1 [t14] σ) fun t15=>
 A.rd (Qa [t15] σ) fun t16=>A.rd (Qb .geq false [t16,jv 0] σ) fun t17=>A.got t17 (Zj [x1] σ) fun t18=>A.got t17 (Xb [t18] σ) fun t19=>A.got t17 (Ya 1 [t19] σ) fun t20=>
 A.got t17 (Qa [t20] σ) fun t21=>A.got t17 (Qb .leq false [t21,jv 999] σ) fun t22=>A.rd (Qc [t17,t22,.bool false] σ) fun t23=>k11 [t23,t7,jv 0] σ) (
 A.rd (Qb .eql false [t10,.int .i8 1] σ) fun t24=>joinK (fun k25=>A.test t24 (k25 [t24] σ) (A.rd (Qb .eql false [t10,.int .i8 2] σ) fun t27=>A.test t27 (
 k25 [t27] σ) (A.rd (Qb .eql false [t10,.int .i8 3] σ) fun t28=>A.test t28 (k25 [t28] σ) (A.rd (Qb .eql false [t10,.int .i8 4] σ) fun t29=>k25 [t29] σ)))) (fun v26 σ=>
 A.test (h0 v26) (A.rd (Xb [x1] σ) fun t30=>A.rd (Ya 2 [t30] σ) fun t31=>A.rd (Qa [t31] σ) fun t32=>A.call (.call 212) [t32] σ fun t33 σ=>
 k11 [t3,t33,jv 0] σ) (A.rd (Qb .eql false [t10,.int .i8 5] σ) fun t34=>joinK (fun k35=>A.test t34 (k35 [t34] σ) (A.rd (Qb .eql false [t10,.int .i8 6] σ) fun t37=>
 k35 [t37] σ)) (fun v36 σ=>A.test (h0 v36) (k11 [t3,t7,jv 0] σ) (A.rd (Qb .eql false [t10,.int .i8 7] σ) fun t38=>A.test t38 (A.got t7 (Zj [x0] σ) fun t39=>
 A.got t7 (Xb [t39] σ) fun t40=>A.got t7 (Ya 1 [t40] σ) fun t41=>A.got t7 (Qa [t41] σ) fun t42=>A.rd (Qc [t7,t42,.bool false] σ) fun t43=>
 k11 [t3,t43,jv 0] σ) (A.rd (Qb .eql false [t10,.int .i8 8] σ) fun t44=>joinK (fun k45=>A.test t44 (k45 [t44] σ) (A.rd (Qb .eql false [t10,.int .i8 9] σ) fun t47=>
 A.test t47 (k45 [t47] σ) (A.rd (Qb .eql false [t10,.int .i8 10] σ) fun t48=>A.test t48 (k45 [t48] σ) (A.rd (Qb .eql false [t10,.int .i8 11] σ) fun t49=>
 A.test t49 (k45 [t49] σ) (A.rd (Qb .eql false [t10,.int .i8 12] σ) fun t50=>k45 [t50] σ))))) (fun v46 σ=>A.test (h0 v46) (k11 [t3,t7,jv 2] σ) (ret (.bool false) σ))))))))) (fun v12 σ=>
 A.rd (Yp .not [(h0 v12)] σ) fun t51=>A.gof t51 (Zj [(h1 v12)] σ) fun t52=>A.gof t51 (Yp .not [t52] σ) fun t53=>A.rd (Qc [t51,.bool true,t53] σ) fun t54=>
 A.gof t54 (Zj [x1] σ) fun t55=>A.gof t54 (Xb [t55] σ) fun t56=>A.gof t54 (Ya 3 [t56] σ) fun t57=>A.gof t54 (Qa [t57] σ) fun t58=>A.gof t54 (Qg [t58] σ) fun t59=>
 A.gof t54 (Zj [(h2 v12)] σ) fun t60=>A.gof t54 (Qb .neq false [t59,t60] σ) fun t61=>A.rd (Qc [t54,.bool true,t61] σ) fun t62=>A.test t62 (ret (.bool false) σ) (
 A.rd (Xb [x1] σ) fun t63=>A.rd (Ya 3 [t63] σ) fun t64=>A.rd (Qa [t64] σ) fun t65=>A.rd (Qg [t65] σ) fun t66=>A.loop (fun ag67 v68 σ=>
 A.rd (Qb .lss false [(h0 v68),t66] σ) fun t69=>A.test t69 (A.rd (Xb [x1] σ) fun t70=>A.rd (Ya 3 [t70] σ) fun t71=>A.rd (Qa [t71] σ) fun t72=>
 A.rd (Xd 4 [t72,(h0 v68)] σ) fun t73=>A.call (.call 211) [x0,t73] σ fun t74 σ=>A.rd (Yp .not [t74] σ) fun t75=>A.test t75 (ret (.bool false) σ) (
 A.rd (Qb .add false [(h0 v68),jv 1] σ) fun t76=>ag67 [t76] σ)) (ret (.bool true) σ)) [jv 0] σ))
 | _=>A.stop
abbrev n211:List (Option (List Nat)):=[some [6,7,5],none,some [37],none,none,none,some [47],none,none,some [59],none,none,none,none,none,none,some [85],none,none,none]
theorem g211_ok:GOk prog GL0 211 2 g211:=gok2 (l:=n211) (by kernel_rfl) fun _ _ _ _ _ _=>by kernel_rfl
def g212:GFun:=fun A xs σ ret=>match xs with
 | [x0]=>
 A.rd (Qb .eql false [x0,.int .i8 0] σ) fun t0=>A.gof t0 (Zj [x0] σ) fun t1=>A.gof t0 (Qb .eql false [t1,.int .i8 1] σ) fun t2=>A.rd (Qc [t0,.bool true,t2] σ) fun t3=>
 ret t3 σ
 | _=>A.stop
abbrev n212:List (Option (List Nat)):=[]
theorem g212_ok:GOk prog GL0 212 1 g212:=gok1 (l:=n212) (by kernel_rfl) fun _ _ _ _ _=>by kernel_rfl
def g213:GFun:=fun A xs σ ret=>match xs with
 | [x0,x1]=>
 A.rd (Xb [x1] σ) fun t0=>A.rd (Ya 1 [t0] σ) fun t1=>A.rd (Qa [t1] σ) fun t2=>A.rd (Qb .eql false [t2,.int .i8 0] σ) fun t3=>A.got t3 (Zj [x1] σ) fun t4=>
 A.got t3 (Xb [t4] σ) fun t5=>A.got t3 (Ya 2 [t5] σ) fun t6=>A.got t3 (Qa [t6] σ) fun t7=>A.got t3 (Qb .eql false [t7,.str []] σ) fun t8=>
 A.rd (Qc [t3,t8,.bool false] σ) fun t9=>A.rd (Xb [x1] σ) fun t10=>A.rd (Ya 0 [t10] σ) fun t11=>A.rd (Qa [t11] σ) fun t12=>joinK (fun k13=>
 A.rd (Qb .eql false [t12,.int .i8 0] σ) fun t15=>joinK (fun k16=>A.test t15 (k16 [t15] σ) (A.rd (Qb .eql false [t12,.int .i8 1] σ) fun t18=>A.test t18 (
 k16 [t18] σ) (A.rd (Qb .eql false [t12,.int .i8 2] σ) fun t19=>k16 [t19] σ))) (fun v17 σ=>A.test (h0 v17) (k13 [t9,jv 2,jv 0] σ) (A.rd (Qb .eql false [t12,.int .i8 3] σ) fun t20=>
 A.test t20 (k13 [t9,jv 0,jv 1] σ) (A.rd (Qb .eql false [t12,.int .i8 4] σ) fun t21=>joinK (fun k22=>A.test t21 (k22 [t21] σ) (A.rd (Qb .eql false [t12,.int .i8 5] σ) fun t24=>
 k22 [t24] σ)) (fun v23 σ=>A.test (h0 v23) (k13 [t9,jv 0,jv 2] σ) (A.rd (Qb .eql false [t12,.int .i8 6] σ) fun t25=>A.test t25 (A.rd (Xb [x0] σ) fun t26=>
 A.rd (Ya 0 [t26] σ) fun t27=>A.rd (Qa [t27] σ) fun t28=>A.rd (Xb [x1] σ) fun t29=>A.rd (Ya 2 [t29] σ) fun t30=>A.rd (Qa [t30] σ) fun t31=>
 A.rd (Xt true true (.bool false) [t28,t31] σ) fun t32=>A.rd (Qe 0 [t32] σ) fun t33=>A.rd (Qe 1 [t32] σ) fun t34=>A.got t34 (Zj [x1] σ) fun t35=>
 A.got t34 (Xb [t35] σ) fun t36=>A.got t34 (Ya 1 [t36] σ) fun t37=>A.got t34 (Qa [t37] σ) fun t38=>A.gw t34 true (fun k=>A.call (.call 212) [t38] σ k) σ fun t39 σ=>
 A.rd (Qc [t34,t39,.bool false] σ) fun t40=>k13 [t40,jv 0,jv 0] σ) (ret (.bool false) σ))))))) (fun v14 σ=>A.rd (Yp .not [(h0 v14)] σ) fun t41=>
 A.gof t41 (Zj [x1] σ) fun t42=>A.gof t41 (Xb [t42] σ) fun t43=>A.gof t41 (Ya 3 [t43] σ) fun t44=>A.gof t41 (Qa [t44] σ) fun t45=>A.gof t41 (Qg [t45] σ) fun t46=>
 A.gof t41 (Zj [(h1 v14)] σ) fun t47=>A.gof t41 (Qb .neq false [t46,t47] σ) fun t48=>A.rd (Qc [t41,.bool true,t48] σ) fun t49=>A.gof t49 (Zj [x1] σ) fun t50=>
 A.gof t49 (Xb [t50] σ) fun t51=>A.gof t49 (Ya 4 [t51] σ) fun t52=>A.gof t49 (Qa [t52] σ) fun t53=>A.gof t49 (Qg [t53] σ) fun t54=>
 A.gof t49 (Zj [(h2 v14)] σ) fun t55=>A.gof t49 (Qb .neq false [t54,t55] σ) fun t56=>A.rd (Qc [t49,.bool true,t56] σ) fun t57=>A.test t57 (ret (.bool false) σ) (
 A.rd (Xb [x1] σ) fun t58=>A.rd (Ya 3 [t58] σ) fun t59=>A.rd (Qa [t59] σ) fun t60=>A.rd (Qg [t60] σ) fun t61=>A.loop (fun ag62 v63 σ=>
 A.rd (Qb .lss false [(h0 v63),t61] σ) fun t64=>A.test t64 (A.rd (Xb [x1] σ) fun t65=>A.rd (Ya 3 [t65] σ) fun t66=>A.rd (Qa [t66] σ) fun t67=>
 A.rd (Xd 4 [t67,(h0 v63)] σ) fun t68=>A.call (.call 211) [x0,t68] σ fun t69 σ=>A.rd (Yp .not [t69] σ) fun t70=>A.test t70 (ret (.bool false) σ) (
 A.rd (Qb .add false [(h0 v63),jv 1] σ) fun t71=>ag62 [t71] σ)) (A.rd (Xb [x1] σ) fun t72=>A.rd (Ya 4 [t72] σ) fun t73=>A.rd (Qa [t73] σ) fun t74=>
 A.rd (Qg [t74] σ) fun t75=>A.loop (fun ag76 v77 σ=>A.rd (Qb .lss false [(h0 v77),t75] σ) fun t78=>A.test t78 (A.rd (Xb [x1] σ) fun t79=>A.rd (Ya 4 [t79] σ) fun t80=>
 A.rd (Qa [t80] σ) fun t81=>A.rd (Xd 5 [t81,(h0 v77)] σ) fun t82=>A.call (.call 213) [x0,t82] σ fun t83 σ=>A.rd (Yp .not [t83] σ) fun t84=>A.test t84 (
 ret (.bool false) σ) (A.rd (Qb .add false [(h0 v77),jv 1] σ) fun t85=>ag76 [t85] σ)) (ret (.bool true) σ)) [jv 0] σ)) [jv 0] σ))
 | _=>A.stop
abbrev n213:List (Option (List Nat)):=[some [7,5,6],some [26],none,none,none,some [32],none,none,none,none,some [82],none,none,none,none,some [100],none,none,none]
theorem g213_ok:GOk prog GL0 213 2 g213:=gok2 (l:=n213) (by kernel_rfl) fun _ _ _ _ _ _=>by kernel_rfl
def g221:GFun:=fun A xs σ ret=>match xs with
 | [x0,x1]=>
 A.rd (Xb [x0] σ) fun t0=>A.rd (Ya 2 [t0] σ) fun t1=>A.rd (Qa [t1] σ) fun t2=>A.rd (Xb [x0] σ) fun t3=>A.rd (Ya 3 [t3] σ) fun t4=>
 A.rd (Qa [t4] σ) fun t5=>A.rd (Xb [x0] σ) fun t6=>A.rd (Ya 4 [t6] σ) fun t7=>A.rd (Qa [t7] σ) fun t8=>A.rd (Xb [x0] σ) fun t9=>
 A.rd (Ya 5 [t9] σ) fun t10=>A.rd (Qa [t10] σ) fun t11=>A.rd (Xb [x0] σ) fun t12=>A.rd (Ya 6 [t12] σ) fun t13=>A.rd (Qa [t13] σ) fun t14=>
 A.rd (Xb [x0] σ) fun t15=>A.rd (Ya 7 [t15] σ) fun t16=>A.rd (Qa [t16] σ) fun t17=>A.rd (Xg [jv 0,jv 0,jv 0,jv 0,jv 0,jv 0] [(0,1),(1,1),(2,1),(3,1),(4,1),(5,1)] [t2,t5,t8,t11,t14,t17] σ) fun t18=>
 A.loop (fun ag19 v20 σ=>A.rd (Qb .lss false [(h0 v20),jv 6] σ) fun t21=>A.test t21 (A.rd (Y3 false 6 1 [t18,(h0 v20)] σ) fun t22=>A.rd (Qb .lss false [t22,jv 0] σ) fun t23=>
 A.gof t23 (Zj [t22] σ) fun t24=>A.gof t23 (Qb .gtr false [t24,jv 999] σ) fun t25=>A.rd (Qc [t23,.bool true,t25] σ) fun t26=>A.test t26 (ret (.bool false) σ) (
 A.rd (Qb .add false [(h0 v20),jv 1] σ) fun t27=>ag19 [t27] σ)) (A.rd (Xb [x0] σ) fun t28=>A.rd (Ya 0 [t28] σ) fun t29=>A.rd (Qa [t29] σ) fun t30=>
 A.call (.call 223) [t30] σ fun t31 σ=>A.rd (Yp .not [t31] σ) fun t32=>joinK (fun k33=>A.test t32 (k33 [t32] σ) (A.rd (Xb [x0] σ) fun t35=>A.rd (Ze true 12 [t35] σ) fun t36=>
 A.call (.call 124) [t36] σ fun t37 σ=>A.rd (Qb .gtr false [t37,jv 200] σ) fun t38=>A.test t38 (k33 [t38] σ) (A.rd (Xb [x0] σ) fun t39=>A.rd (Ya 1 [t39] σ) fun t40=>
 A.rd (Qa [t40] σ) fun t41=>A.got t41 (Zj [x0] σ) fun t42=>A.got t41 (Xb [t42] σ) fun t43=>A.got t41 (Ya 4 [t43] σ) fun t44=>A.got t41 (Qa [t44] σ) fun t45=>
 A.got t41 (Qb .lss false [t45,jv 1] σ) fun t46=>A.rd (Qc [t41,t46,.bool false] σ) fun t47=>k33 [t47] σ))) (fun v34 σ=>A.test (h0 v34) (ret (.bool false) σ) (
 A.rd (Xb [x0] σ) fun t48=>A.rd (Ya 1 [t48] σ) fun t49=>A.rd (Qa [t49] σ) fun t50=>A.rd (Yp .not [t50] σ) fun t51=>A.got t51 (Zj [x0] σ) fun t52=>
 A.got t51 (Xb [t52] σ) fun t53=>A.got t51 (Ya 3 [t53] σ) fun t54=>A.got t51 (Qa [t54] σ) fun t55=>A.got t51 (Zj [x0] σ) fun t56=>A.got t51 (Xb [t56] σ) fun t57=>
 A.got t51 (Ya 4 [t57] σ) fun t58=>A.got t51 (Qa [t58] σ) fun t59=>A.got t51 (Qb .add false [t55,t59] σ) fun t60=>A.got t51 (Zj [x0] σ) fun t61=>
 A.got t51 (Xb [t61] σ) fun t62=>A.got t51 (Ya 5 [t62] σ) fun t63=>A.got t51 (Qa [t63] σ) fun t64=>A.got t51 (Qb .add false [t60,t64] σ) fun t65=>
 A.got t51 (Zj [x0] σ) fun t66=>A.got t51 (Xb [t66] σ) fun t67=>A.got t51 (Ya 6 [t67] σ) fun t68=>A.got t51 (Qa [t68] σ) fun t69=>A.got t51 (Qb .add false [t65,t69] σ) fun t70=>
 A.got t51 (Zj [x0] σ) fun t71=>A.got t51 (Xb [t71] σ) fun t72=>A.got t51 (Ya 7 [t72] σ) fun t73=>A.got t51 (Qa [t73] σ) fun t74=>A.got t51 (Qb .add false [t70,t74] σ) fun t75=>
 A.got t51 (Qb .gtr false [t75,jv 0] σ) fun t76=>A.got t51 (Zj [t76] σ) fun t77=>A.gof t77 (Zj [x0] σ) fun t78=>A.gof t77 (Xb [t78] σ) fun t79=>
 A.gof t77 (Ya 9 [t79] σ) fun t80=>A.gof t77 (Qa [t80] σ) fun t81=>A.gof t77 (Qg [t81] σ) fun t82=>A.gof t77 (Zj [x0] σ) fun t83=>A.gof t77 (Xb [t83] σ) fun t84=>
 A.gof t77 (Ya 10 [t84] σ) fun t85=>A.gof t77 (Qa [t85] σ) fun t86=>A.gof t77 (Qg [t86] σ) fun t87=>A.gof t77 (Qb .add false [t82,t87] σ) fun t88=>
 A.gof t77 (Qb .gtr false [t88,jv 0] σ) fun t89=>A.got t51 (Qc [t77,.bool true,t89] σ) fun t90=>A.rd (Qc [t51,t90,.bool false] σ) fun t91=>
 A.test t91 (ret (.bool false) σ) (A.rd (Xg [.nilmap,.bool false] [(0,1),(1,1)] [x1,.bool true] σ) fun t92=>A.wr (Zo [t92] σ) σ fun t93 σ=>A.rd (Xb [x0] σ) fun t94=>
 A.rd (Ya 8 [t94] σ) fun t95=>A.rd (Qa [t95] σ) fun t96=>A.call (.call 157) [t93,t96,jv 1] σ fun t97 σ=>A.rd (Yp .not [t97] σ) fun t98=>A.test t98 (
 ret (.bool false) σ) (A.rd (Xb [t93] σ) fun t99=>A.rd (Ya 1 [t99] σ) fun t100=>A.wr (Zc 1 [t100,.bool false] σ) σ fun _ σ=>A.rd (Xb [x0] σ) fun t101=>
 A.rd (Ya 9 [t101] σ) fun t102=>A.rd (Qa [t102] σ) fun t103=>A.call (.call 157) [t93,t103,jv 1] σ fun t104 σ=>A.got t104 (Zj [t93] σ) fun t105=>
 A.got t104 (Zj [x0] σ) fun t106=>A.got t104 (Xb [t106] σ) fun t107=>A.got t104 (Ya 10 [t107] σ) fun t108=>A.got t104 (Qa [t108] σ) fun t109=>
 A.gw t104 true (fun k=>A.call (.call 157) [t105,t109,jv 1] σ k) σ fun t110 σ=>A.rd (Qc [t104,t110,.bool false] σ) fun t111=>ret t111 σ)))))) [jv 0] σ
 | _=>A.stop
abbrev n221:List (Option (List Nat)):=[none,some [33],none,none,none,none,some [43],none,none,none,none]
theorem g221_ok:GOk prog GL0 221 2 g221:=gok2 (l:=n221) (by kernel_rfl) fun _ _ _ _ _ _=>by kernel_rfl
def g222:GFun:=fun A xs σ ret=>match xs with
 | [x0,x1]=>
 A.wr (Zo [x0] σ) σ fun t0 σ=>A.rd (Ze true 1 [t0] σ) fun t1=>A.rd (Zp (.func 235) 1 [t1] σ) fun t2=>A.rd (Ze true 1 [t0] σ) fun t3=>A.rd (Zp (.func 235) 1 [t3] σ) fun t4=>
 A.rd (Ze true 1 [t0] σ) fun t5=>A.rd (Zp (.func 235) 1 [t5] σ) fun t6=>A.rd (Ze true 1 [t0] σ) fun t7=>A.rd (Zp (.func 235) 1 [t7] σ) fun t8=>
 A.rd (Ze true 1 [t0] σ) fun t9=>A.rd (Zp (.func 236) 1 [t9] σ) fun t10=>A.rd (Ze true 1 [t0] σ) fun t11=>A.rd (Zp (.func 237) 1 [t11] σ) fun t12=>
 A.rd (Ze true 1 [t0] σ) fun t13=>A.rd (Zp (.func 236) 1 [t13] σ) fun t14=>A.rd (Ze true 1 [t0] σ) fun t15=>A.rd (Zp (.func 236) 1 [t15] σ) fun t16=>
 A.rd (Ze true 1 [t0] σ) fun t17=>A.rd (Zp (.func 238) 1 [t17] σ) fun t18=>A.rd (Xg [.nilf,.nilf,.nilf,.nilf,.nilf,.nilf,.nilf,.nilf,.nilf] [(0,1),(1,1),(2,1),(3,1),(4,1),(5,1),(6,1),(7,1),(8,1)] [t2,t4,t6,t8,t10,t12,t14,t16,t18] σ) fun t19=>
 A.wr (Yf [.nilf,.nilf,.nilf,.nilf,.nilf,.nilf,.nilf,.nilf,.nilf] [] σ) σ fun t20 σ=>A.wr (Zc 9 [t20,t19] σ) σ fun _ σ=>A.rd (Zp (.func 240) 0 [t0,t20] σ) fun t21=>
 A.call (.call 239) [x1,t21] σ fun t22 σ=>A.rd (Yp .not [t22] σ) fun t23=>ret t23 σ
 | _=>A.stop
abbrev n222:List (Option (List Nat)):=[]
theorem g222_ok:GOk prog GL0 222 2 g222:=gok2 (l:=n222) (by kernel_rfl) fun _ _ _ _ _ _=>by kernel_rfl
def g223:GFun:=fun A xs σ ret=>match xs with
 | [x0]=>
 A.call (.call 241) [x0] σ fun t0 σ=>A.rd (Qe 0 [t0] σ) fun t1=>A.rd (Qe 1 [t0] σ) fun t2=>A.rd (Qb .gtr false [t2,jv 0] σ) fun t3=>A.got t3 (Zj [t2] σ) fun t4=>
 A.got t3 (Qb .leq false [t4,jv 24] σ) fun t5=>A.rd (Qc [t3,t5,.bool false] σ) fun t6=>A.got t6 (Zj [t1] σ) fun t7=>A.got t6 (Zj [x0] σ) fun t8=>
 A.got t6 (Qq [t8] σ) fun t9=>A.got t6 (Qb .eql false [t7,t9] σ) fun t10=>A.rd (Qc [t6,t10,.bool false] σ) fun t11=>A.got t11 (Zj [t1] σ) fun t12=>
 A.got t11 (Qb .leq false [t12,jv 40] σ) fun t13=>A.rd (Qc [t11,t13,.bool false] σ) fun t14=>A.got t14 (Zj [x0] σ) fun t15=>A.gw t14 true (fun k=>A.call (.call 242) [t15] σ k) σ fun t16 σ=>
 A.got t14 (Yp .not [t16] σ) fun t17=>A.rd (Qc [t14,t17,.bool false] σ) fun t18=>ret t18 σ
 | _=>A.stop
abbrev n223:List (Option (List Nat)):=[]
theorem g223_ok:GOk prog GL0 223 1 g223:=gok1 (l:=n223) (by kernel_rfl) fun _ _ _ _ _=>by kernel_rfl
def g224:GFun:=fun A xs σ ret=>match xs with
 | [x0,x1]=>
 A.wr (Zo [x0] σ) σ fun t0 σ=>A.wr (Zo [x1] σ) σ fun t1 σ=>A.rd (Ya 0 [t0] σ) fun t2=>A.rd (Qa [t2] σ) fun t3=>A.rd (Zp (.func 244) 0 [t1] σ) fun t4=>
 A.call (.call 243) [t3,t4] σ fun t5 σ=>A.rd (Qe 0 [t5] σ) fun t6=>A.rd (Qe 1 [t5] σ) fun t7=>A.rd (Qe 2 [t5] σ) fun t8=>A.wr (Yf [.str [],.bool false,jv 0,jv 0,jv 0,jv 0,jv 0,jv 0,.nils,.nils,.nils,jv 0] [] σ) σ fun t9 σ=>
 A.wr (Zc 12 [t9,t6] σ) σ fun _ σ=>ret (.tup [t7,t8]) σ
 | _=>A.stop
abbrev n224:List (Option (List Nat)):=[]
theorem g224_ok:GOk prog GL0 224 2 g224:=gok2 (l:=n224) (by kernel_rfl) fun _ _ _ _ _ _=>by kernel_rfl
def g225:GFun:=fun A xs σ ret=>match xs with
 | [x0]=>
 A.wr (Zo [x0] σ) σ fun t0 σ=>A.rd (Ya 0 [t0] σ) fun t1=>A.rd (Qa [t1] σ) fun t2=>A.rd (Qb .eql false [t2,.int .i8 0] σ) fun t3=>A.got t3 (Ya 1 [t0] σ) fun t4=>
 A.got t3 (Qa [t4] σ) fun t5=>A.got t3 (Qb .eql false [t5,jv 0] σ) fun t6=>A.rd (Qc [t3,t6,.bool false] σ) fun t7=>A.got t7 (Ya 2 [t0] σ) fun t8=>
 A.got t7 (Qa [t8] σ) fun t9=>A.got t7 (Qb .eql false [t9,.int .i8 0] σ) fun t10=>A.rd (Qc [t7,t10,.bool false] σ) fun t11=>A.got t11 (Ya 3 [t0] σ) fun t12=>
 A.got t11 (Qa [t12] σ) fun t13=>A.got t11 (Qg [t13] σ) fun t14=>A.got t11 (Qb .eql false [t14,jv 0] σ) fun t15=>A.rd (Qc [t11,t15,.bool false] σ) fun t16=>
 ret t16 σ
 | _=>A.stop
abbrev n225:List (Option (List Nat)):=[]
theorem g225_ok:GOk prog GL0 225 1 g225:=gok1 (l:=n225) (by kernel_rfl) fun _ _ _ _ _=>by kernel_rfl
def g226:GFun:=fun A xs σ ret=>match xs with
 | [x0,x1]=>
 A.wr (Zo [x1] σ) σ fun t0 σ=>A.rd (Ya 0 [t0] σ) fun t1=>A.rd (Qa [t1] σ) fun t2=>A.rd (Qb .geq false [t2,.int .i8 0] σ) fun t3=>A.got t3 (Ya 0 [t0] σ) fun t4=>
 A.got t3 (Qa [t4] σ) fun t5=>A.got t3 (Qb .leq false [t5,.int .i8 2] σ) fun t6=>A.rd (Qc [t3,t6,.bool false] σ) fun t7=>joinK (fun k8=>A.test t7 (
 k8 [jv 2] σ) (k8 [jv 0] σ)) (fun v9 σ=>A.rd (Ya 0 [t0] σ) fun t10=>A.rd (Qa [t10] σ) fun t11=>A.rd (Qb .eql false [t11,.int .i8 3] σ) fun t12=>
 joinK (fun k13=>A.test t12 (k13 [jv 1] σ) (k13 [jv 0] σ)) (fun v14 σ=>A.rd (Ya 0 [t0] σ) fun t15=>A.rd (Qa [t15] σ) fun t16=>A.rd (Qb .eql false [t16,.int .i8 4] σ) fun t17=>
 A.gof t17 (Ya 0 [t0] σ) fun t18=>A.gof t17 (Qa [t18] σ) fun t19=>A.gof t17 (Qb .eql false [t19,.int .i8 5] σ) fun t20=>A.rd (Qc [t17,.bool true,t20] σ) fun t21=>
 joinK (fun k22=>A.test t21 (k22 [jv 2] σ) (k22 [(h0 v14)] σ)) (fun v23 σ=>A.rd (Ya 0 [t0] σ) fun t24=>A.rd (Qa [t24] σ) fun t25=>A.rd (Qb .lss false [t25,.int .i8 0] σ) fun t26=>
 A.gof t26 (Ya 0 [t0] σ) fun t27=>A.gof t26 (Qa [t27] σ) fun t28=>A.gof t26 (Qb .gtr false [t28,.int .i8 6] σ) fun t29=>A.rd (Qc [t26,.bool true,t29] σ) fun t30=>
 A.gof t30 (Ya 3 [t0] σ) fun t31=>A.gof t30 (Qa [t31] σ) fun t32=>A.gof t30 (Qg [t32] σ) fun t33=>A.gof t30 (Zj [(h0 v9)] σ) fun t34=>A.gof t30 (Qb .neq false [t33,t34] σ) fun t35=>
 A.rd (Qc [t30,.bool true,t35] σ) fun t36=>A.gof t36 (Ya 4 [t0] σ) fun t37=>A.gof t36 (Qa [t37] σ) fun t38=>A.gof t36 (Qg [t38] σ) fun t39=>
 A.gof t36 (Zj [(h0 v23)] σ) fun t40=>A.gof t36 (Qb .neq false [t39,t40] σ) fun t41=>A.rd (Qc [t36,.bool true,t41] σ) fun t42=>A.test t42 (ret (.bool false) σ) (
 A.loop (fun ag43 v44 σ=>A.rd (Ya 3 [t0] σ) fun t45=>A.rd (Qa [t45] σ) fun t46=>A.rd (Qg [t46] σ) fun t47=>A.rd (Qb .lss false [(h0 v44),t47] σ) fun t48=>
 A.test t48 (A.rd (Ya 3 [t0] σ) fun t49=>A.rd (Qa [t49] σ) fun t50=>A.rd (Xd 4 [t50,(h0 v44)] σ) fun t51=>A.rd (Ze true 4 [t51] σ) fun t52=>
 A.call (.call 77) [x0,t52] σ fun t53 σ=>A.rd (Yp .not [t53] σ) fun t54=>A.test t54 (ret (.bool false) σ) (A.rd (Qb .add false [(h0 v44),jv 1] σ) fun t55=>
 ag43 [t55] σ)) (A.loop (fun ag56 v57 σ=>A.rd (Ya 4 [t0] σ) fun t58=>A.rd (Qa [t58] σ) fun t59=>A.rd (Qg [t59] σ) fun t60=>A.rd (Qb .lss false [(h0 v57),t60] σ) fun t61=>
 A.test t61 (A.rd (Ya 4 [t0] σ) fun t62=>A.rd (Qa [t62] σ) fun t63=>A.rd (Xd 5 [t63,(h0 v57)] σ) fun t64=>A.rd (Ze true 5 [t64] σ) fun t65=>
 A.call (.call 226) [x0,t65] σ fun t66 σ=>A.rd (Yp .not [t66] σ) fun t67=>A.test t67 (ret (.bool false) σ) (A.rd (Qb .add false [(h0 v57),jv 1] σ) fun t68=>
 ag56 [t68] σ)) (A.rd (Ya 0 [t0] σ) fun t69=>A.rd (Qa [t69] σ) fun t70=>A.rd (Qb .eql false [t70,.int .i8 6] σ) fun t71=>A.test t71 (A.rd (Ya 1 [t0] σ) fun t72=>
 A.rd (Qa [t72] σ) fun t73=>A.call (.call 121) [t73] σ fun t74 σ=>A.got t74 (Zj [x0] σ) fun t75=>A.got t74 (Ya 2 [t0] σ) fun t76=>A.got t74 (Qa [t76] σ) fun t77=>
 A.gw t74 true (fun k=>A.call (.call 228) [t75,t77,.bool false] σ k) σ fun t78 σ=>A.rd (Qc [t74,t78,.bool false] σ) fun t79=>ret t79 σ) (A.rd (Ya 1 [t0] σ) fun t80=>
 A.rd (Qa [t80] σ) fun t81=>A.rd (Qb .eql false [t81,.int .i8 0] σ) fun t82=>A.got t82 (Ya 2 [t0] σ) fun t83=>A.got t82 (Qa [t83] σ) fun t84=>
 A.got t82 (Qb .eql false [t84,.str []] σ) fun t85=>A.rd (Qc [t82,t85,.bool false] σ) fun t86=>ret t86 σ))) [jv 0] σ)) [jv 0] σ))))
 | _=>A.stop
abbrev n226:List (Option (List Nat)):=[some [5],some [6],some [6],none,none,some [7],none,none,none,none,some [8],none,none,none,none]
theorem g226_ok:GOk prog GL0 226 2 g226:=gok2 (l:=n226) (by kernel_rfl) fun _ _ _ _ _ _=>by kernel_rfl
def g227:GFun:=fun A xs σ ret=>match xs with
 | [x0]=>
 A.wr (Zo [x0] σ) σ fun t0 σ=>A.rd (Ya 0 [t0] σ) fun t1=>A.rd (Qa [t1] σ) fun t2=>A.rd (Qb .eql false [t2,.int .i8 0] σ) fun t3=>A.got t3 (Ya 1 [t0] σ) fun t4=>
 A.got t3 (Qa [t4] σ) fun t5=>A.got t3 (Qb .eql false [t5,.int .i8 0] σ) fun t6=>A.rd (Qc [t3,t6,.bool false] σ) fun t7=>A.got t7 (Ya 2 [t0] σ) fun t8=>
 A.got t7 (Qa [t8] σ) fun t9=>A.got t7 (Qb .eql false [t9,.str []] σ) fun t10=>A.rd (Qc [t7,t10,.bool false] σ) fun t11=>A.got t11 (Ya 3 [t0] σ) fun t12=>
 A.got t11 (Qa [t12] σ) fun t13=>A.got t11 (Qg [t13] σ) fun t14=>A.got t11 (Qb .eql false [t14,jv 0] σ) fun t15=>A.rd (Qc [t11,t15,.bool false] σ) fun t16=>
 A.got t16 (Ya 4 [t0] σ) fun t17=>A.got t16 (Qa [t17] σ) fun t18=>A.got t16 (Qg [t18] σ) fun t19=>A.got t16 (Qb .eql false [t19,jv 0] σ) fun t20=>
 A.rd (Qc [t16,t20,.bool false] σ) fun t21=>ret t21 σ
 | _=>A.stop
abbrev n227:List (Option (List Nat)):=[]
theorem g227_ok:GOk prog GL0 227 1 g227:=gok1 (l:=n227) (by kernel_rfl) fun _ _ _ _ _=>by kernel_rfl
def g228:GFun:=fun A xs σ ret=>match xs with
 | [x0,x1,x2]=>
 A.loop (fun ag0 v1 σ=>A.rd (Xb [x0] σ) fun t2=>A.rd (Ya 0 [t2] σ) fun t3=>A.rd (Qa [t3] σ) fun t4=>A.rd (Qg [t4] σ) fun t5=>A.rd (Qb .lss false [(h0 v1),t5] σ) fun t6=>
 A.test t6 (A.rd (Xb [x0] σ) fun t7=>A.rd (Ya 0 [t7] σ) fun t8=>A.rd (Qa [t8] σ) fun t9=>A.rd (Xd 12 [t9,(h0 v1)] σ) fun t10=>
 A.rd (Ya 0 [t10] σ) fun t11=>A.rd (Qa [t11] σ) fun t12=>A.rd (Qb .eql false [t12,x1] σ) fun t13=>A.test t13 (A.rd (Xb [x0] σ) fun t14=>
 A.rd (Ya 0 [t14] σ) fun t15=>A.rd (Qa [t15] σ) fun t16=>A.rd (Xd 12 [t16,(h0 v1)] σ) fun t17=>A.rd (Ya 1 [t17] σ) fun t18=>A.rd (Qa [t18] σ) fun t19=>
 A.gof t19 (Zj [x2] σ) fun t20=>A.gof t19 (Yp .not [t20] σ) fun t21=>A.rd (Qc [t19,.bool true,t21] σ) fun t22=>ret t22 σ) (A.rd (Qb .add false [(h0 v1),jv 1] σ) fun t23=>
 ag0 [t23] σ)) (ret (.bool false) σ)) [jv 0] σ
 | _=>A.stop
abbrev n228:List (Option (List Nat)):=[none,some [7],none,none,none]
theorem g228_ok:GOk prog GL0 228 3 g228:=gok3 (l:=n228) (by kernel_rfl) fun _ _ _ _ _ _ _=>by kernel_rfl
def g229:GFun:=fun A xs σ ret=>match xs with
 | []=>
 A.wr (Yl 1 41 [.str [],.str [],.str [],.str [],.str [],.str [],.str [],.str [],.str [],.str [],.str [],.str [],.str [],.str [],.str [],.str [],.str [],.str [],.str [],.str [],.str [],.str [],.str [],.str [],.str [],.str [],.str [],.str [],.str [],.str [],.str [],.str [],.str [],.str [],.str [],.str [],.str [],.str [],.str [],.str [],.str []] [(0,1),(1,1),(2,1),(3,1),(4,1),(5,1),(6,1),(7,1),(8,1),(9,1),(10,1),(11,1),(12,1),(13,1),(14,1),(15,1),(16,1),(17,1),(18,1),(19,1),(20,1),(21,1),(22,1),(23,1),(24,1),(25,1),(26,1),(27,1),(28,1),(29,1),(30,1),(31,1),(32,1),(33,1),(34,1),(35,1),(36,1),(37,1),(38,1),(39,1),(40,1)] [(.str [99,97,114,100]),(.str [117,110,105,116]),(.str [99,104,97,114,109]),(.str [102,111,114,109,97,116]),(.str [112,108,97,121,101,100]),(.str [100,101,97,100]),(.str [100,97,119,110]),(.str [97,117,114,97]),(.str [115,104,105,101,108,100]),(.str [104,97,114,109]),(.str [109,101,110,100]),(.str [100,114,97,119]),(.str [103,97,105,110]),(.str [100,114,111,112]),(.str [108,111,111,107]),(.str [115,104,111,119]),(.str [115,117,109,109,111,110]),(.str [105,102]),(.str [101,108,115,101]),(.str [109,101]),(.str [102,111,101]),(.str [116,97,114,103,101,116]),(.str [108,105,102,101]),(.str [104,97,110,100]),(.str [100,101,99,107]),(.str [117,110,105,116,115]),(.str [109,97,110,97]),(.str [99,111,115,116]),(.str [116,111,112]),(.str [112,111,119,101,114]),(.str [109,105,110]),(.str [109,97,120]),(.str [110,111,116]),(.str [97,110,100]),(.str [111,114]),(.str [104,111,108,100,115]),(.str [108,101,97,115,116]),(.str [109,111,115,116]),(.str [99,111,112,105,101,115]),(.str [98,97,110,110,101,100]),(.str [115,105,110,103,108,101])] σ) σ fun t0 σ=>
 ret t0 σ
 | _=>A.stop
abbrev n229:List (Option (List Nat)):=[]
theorem g229_ok:GOk prog GL0 229 0 g229:=gok0 (l:=n229) (by kernel_rfl) fun _ _ _ _=>by kernel_rfl
def g230:GFun:=fun A xs σ ret=>match xs with
 | [x0]=>
 A.wr (Yf [.int .i8 0,.int .i8 0,.int .i8 0,jv 0,.int .i8 0,.nils,.str [],.int .i8 0,.int .i8 0,.str [],.nils,.nils,.nils,.nils] [] σ) σ fun t0 σ=>
 A.rd (Xg [.int .i8 0,.int .i8 0,.int .i8 0,jv 0,.int .i8 0,.nils,.str [],.int .i8 0,.int .i8 0,.str [],.nils,.nils,.nils,.nils] [] [] σ) fun t1=>
 A.wr (Yf [.int .i8 0,.int .i8 0,.int .i8 0,jv 0,.int .i8 0,.nils,.str [],.int .i8 0,.int .i8 0,.str [],.nils,.nils,.nils,.nils] [] σ) σ fun t2 σ=>
 A.wr (Zc 14 [t2,t1] σ) σ fun _ σ=>joinK (fun k3=>A.call (.call 201) [x0,(.str [104,97,114,109])] σ fun t5 σ=>A.test t5 (A.rd (Ya 0 [t2] σ) fun t6=>
 A.wr (Zc 1 [t6,.int .i8 0] σ) σ fun _ σ=>A.call (.call 245) [x0,.bool true] σ fun t7 σ=>A.rd (Ya 1 [t2] σ) fun t8=>A.wr (Zc 1 [t8,t7] σ) σ fun _ σ=>
 A.call (.call 246) [x0] σ fun t9 σ=>A.rd (Ya 2 [t2] σ) fun t10=>A.wr (Zc 4 [t10,t9] σ) σ fun _ σ=>k3 [] σ) (A.call (.call 201) [x0,(.str [109,101,110,100])] σ fun t11 σ=>
 A.test t11 (A.rd (Ya 0 [t2] σ) fun t12=>A.wr (Zc 1 [t12,.int .i8 1] σ) σ fun _ σ=>A.call (.call 245) [x0,.bool true] σ fun t13 σ=>A.rd (Ya 1 [t2] σ) fun t14=>
 A.wr (Zc 1 [t14,t13] σ) σ fun _ σ=>A.call (.call 246) [x0] σ fun t15 σ=>A.rd (Ya 2 [t2] σ) fun t16=>A.wr (Zc 4 [t16,t15] σ) σ fun _ σ=>
 k3 [] σ) (A.call (.call 201) [x0,(.str [100,114,97,119])] σ fun t17 σ=>A.test t17 (A.rd (Ya 0 [t2] σ) fun t18=>A.wr (Zc 1 [t18,.int .i8 2] σ) σ fun _ σ=>
 A.call (.call 245) [x0,.bool false] σ fun t19 σ=>A.rd (Ya 1 [t2] σ) fun t20=>A.wr (Zc 1 [t20,t19] σ) σ fun _ σ=>A.call (.call 246) [x0] σ fun t21 σ=>
 A.rd (Ya 2 [t2] σ) fun t22=>A.wr (Zc 4 [t22,t21] σ) σ fun _ σ=>k3 [] σ) (A.call (.call 201) [x0,(.str [103,97,105,110])] σ fun t23 σ=>A.test t23 (
 A.rd (Ya 0 [t2] σ) fun t24=>A.wr (Zc 1 [t24,.int .i8 3] σ) σ fun _ σ=>A.call (.call 246) [x0] σ fun t25 σ=>A.rd (Ya 2 [t2] σ) fun t26=>
 A.wr (Zc 4 [t26,t25] σ) σ fun _ σ=>k3 [] σ) (A.call (.call 201) [x0,(.str [100,114,111,112])] σ fun t27 σ=>A.test t27 (A.rd (Ya 0 [t2] σ) fun t28=>
 A.wr (Zc 1 [t28,.int .i8 4] σ) σ fun _ σ=>A.call (.call 245) [x0,.bool false] σ fun t29 σ=>A.rd (Ya 1 [t2] σ) fun t30=>A.wr (Zc 1 [t30,t29] σ) σ fun _ σ=>
 k3 [] σ) (A.call (.call 201) [x0,(.str [115,104,111,119])] σ fun t31 σ=>A.test t31 (A.rd (Ya 0 [t2] σ) fun t32=>A.wr (Zc 1 [t32,.int .i8 6] σ) σ fun _ σ=>
 A.call (.call 245) [x0,.bool false] σ fun t33 σ=>A.rd (Ya 1 [t2] σ) fun t34=>A.wr (Zc 1 [t34,t33] σ) σ fun _ σ=>k3 [] σ) (A.call (.call 201) [x0,(.str [108,111,111,107])] σ fun t35 σ=>
 A.test t35 (A.rd (Ya 0 [t2] σ) fun t36=>A.wr (Zc 1 [t36,.int .i8 5] σ) σ fun _ σ=>A.call (.call 246) [x0] σ fun t37 σ=>A.rd (Ya 2 [t2] σ) fun t38=>
 A.wr (Zc 4 [t38,t37] σ) σ fun _ σ=>k3 [] σ) (A.call (.call 201) [x0,(.str [115,117,109,109,111,110])] σ fun t39 σ=>A.test t39 (A.rd (Ya 0 [t2] σ) fun t40=>
 A.wr (Zc 1 [t40,.int .i8 7] σ) σ fun _ σ=>A.call (.call 200) [x0] σ fun t41 σ=>A.rd (Ya 6 [t2] σ) fun t42=>A.wr (Zc 1 [t42,t41] σ) σ fun _ σ=>
 k3 [] σ) (A.call (.call 151) [x0,(.str [105,102])] σ fun t43 σ=>A.test t43 (A.call (.call 247) [x0] σ fun t44 σ=>A.call (.call 203) [x0,(.str [105,102])] σ fun t45 σ=>
 A.rd (Ya 0 [t2] σ) fun t46=>A.wr (Zc 1 [t46,.int .i8 8] σ) σ fun _ σ=>A.call (.call 248) [x0] σ fun t47 σ=>A.rd (Ya 7 [t2] σ) fun t48=>
 A.wr (Zc 5 [t48,t47] σ) σ fun _ σ=>A.call (.call 205) [x0] σ fun t49 σ=>A.rd (Ya 12 [t2] σ) fun t50=>A.wr (Zc 1 [t50,t49] σ) σ fun _ σ=>
 A.call (.call 203) [x0,(.str [101,108,115,101])] σ fun t51 σ=>A.call (.call 205) [x0] σ fun t52 σ=>A.rd (Ya 13 [t2] σ) fun t53=>A.wr (Zc 1 [t53,t52] σ) σ fun _ σ=>
 A.call (.call 249) [x0] σ fun t54 σ=>A.rd (Ze true 14 [t2] σ) fun t55=>A.wr (Zc 14 [t0,t55] σ) σ fun _ σ=>A.opt (cellV true 14 t0 σ) fun r56=>ret r56 σ) (
 A.call (.call 152) [x0,jv 120] σ fun t57 σ=>k3 [] σ)))))))))) (fun v4 σ=>A.call (.call 203) [x0,(.str [59])] σ fun t58 σ=>A.rd (Ze true 14 [t2] σ) fun t59=>
 A.wr (Zc 14 [t0,t59] σ) σ fun _ σ=>A.opt (cellV true 14 t0 σ) fun r60=>ret r60 σ)
 | _=>A.stop
abbrev n230:List (Option (List Nat)):=[some [],none,none,none,none,none,none,none,none,none]
theorem g230_ok:GOk prog GL0 230 1 g230:=gok1 (l:=n230) (by kernel_rfl) fun _ _ _ _ _=>by kernel_rfl
def g231:GFun:=fun A xs σ ret=>match xs with
 | [x0]=>
 A.wr (Zo [x0] σ) σ fun t0 σ=>A.loop (fun ag1 v2 σ=>A.rd (Ya 3 [t0] σ) fun t3=>A.rd (Qa [t3] σ) fun t4=>A.rd (Qg [t4] σ) fun t5=>A.rd (Qb .lss false [(h0 v2),t5] σ) fun t6=>
 A.test t6 (A.rd (Ya 3 [t0] σ) fun t7=>A.rd (Qa [t7] σ) fun t8=>A.rd (Xd 4 [t8,(h0 v2)] σ) fun t9=>A.rd (Ze true 4 [t9] σ) fun t10=>
 A.call (.call 231) [t10] σ fun t11 σ=>A.rd (Qb .add false [(h1 v2),t11] σ) fun t12=>A.rd (Qb .add false [(h0 v2),jv 1] σ) fun t13=>ag1 [t13,t12] σ) (
 ret (h1 v2) σ)) [jv 0,jv 1] σ
 | _=>A.stop
abbrev n231:List (Option (List Nat)):=[none,some [4,3],none,none]
theorem g231_ok:GOk prog GL0 231 1 g231:=gok1 (l:=n231) (by kernel_rfl) fun _ _ _ _ _=>by kernel_rfl
def g232:GFun:=fun A xs σ ret=>match xs with
 | [x0]=>
 A.wr (Zo [x0] σ) σ fun t0 σ=>A.loop (fun ag1 v2 σ=>A.rd (Ya 3 [t0] σ) fun t3=>A.rd (Qa [t3] σ) fun t4=>A.rd (Qg [t4] σ) fun t5=>A.rd (Qb .lss false [(h0 v2),t5] σ) fun t6=>
 A.test t6 (A.rd (Ya 3 [t0] σ) fun t7=>A.rd (Qa [t7] σ) fun t8=>A.rd (Xd 4 [t8,(h0 v2)] σ) fun t9=>A.rd (Ze true 4 [t9] σ) fun t10=>
 A.call (.call 231) [t10] σ fun t11 σ=>A.rd (Qb .add false [(h1 v2),t11] σ) fun t12=>A.rd (Qb .add false [(h0 v2),jv 1] σ) fun t13=>ag1 [t13,t12] σ) (
 A.loop (fun ag14 v15 σ=>A.rd (Ya 4 [t0] σ) fun t16=>A.rd (Qa [t16] σ) fun t17=>A.rd (Qg [t17] σ) fun t18=>A.rd (Qb .lss false [(h0 v15),t18] σ) fun t19=>
 A.test t19 (A.rd (Ya 4 [t0] σ) fun t20=>A.rd (Qa [t20] σ) fun t21=>A.rd (Xd 5 [t21,(h0 v15)] σ) fun t22=>A.rd (Ze true 5 [t22] σ) fun t23=>
 A.call (.call 232) [t23] σ fun t24 σ=>A.rd (Qb .add false [(h1 v15),t24] σ) fun t25=>A.rd (Qb .add false [(h0 v15),jv 1] σ) fun t26=>ag14 [t26,t25] σ) (
 ret (h1 v15) σ)) [jv 0,(h1 v2)] σ)) [jv 0,jv 1] σ
 | _=>A.stop
abbrev n232:List (Option (List Nat)):=[none,some [4,3],none,none,none,some [5,3],none,none]
theorem g232_ok:GOk prog GL0 232 1 g232:=gok1 (l:=n232) (by kernel_rfl) fun _ _ _ _ _=>by kernel_rfl
def g235:GFun:=fun A xs σ ret=>match xs with
 | [x0,x1]=>
 A.wr (Zo [x0] σ) σ fun t0 σ=>A.wr (Zo [x1] σ) σ fun t1 σ=>A.pu (Ya 0 [t0] σ) fun t2=>A.dr (Qa [t2] σ) σ fun t3 l4 σ=>A.pu (Ya 2 [t1] σ) fun t5=>
 A.dr (Ze true 4 [t5] σ) σ fun t6 l7 σ=>A.dcall (.call 251) [t6] σ fun t8 l9 σ=>A.dcall (.call 250) [t3,t8] σ fun t10 l11 σ=>A.pu (Qb .eql false [t10,.int .i8 0] σ) fun t12=>
 A.gd (Xk [[],[0],[],[2],[2,3],[0,1,2,3,4],[0,1,2,3,4,5],[0,1,2,3,4,5,6]] [([],[]),l4,([],[]),l7,l9,l11,([],[]),([],[])]) <|
 ret t12 σ
 | _=>A.stop
abbrev n235:List (Option (List Nat)):=[]
theorem g235_ok:GOk prog GL0 235 2 g235:=gok2 (l:=n235) (by kernel_rfl) fun _ _ _ _ _ _=>by kernel_rfl
def g236:GFun:=fun A xs σ ret=>match xs with
 | [x0,x1]=>
 A.wr (Zo [x0] σ) σ fun t0 σ=>A.wr (Zo [x1] σ) σ fun t1 σ=>A.rd (Ya 0 [t0] σ) fun t2=>A.rd (Qa [t2] σ) fun t3=>A.call (.call 252) [t3] σ fun t4 σ=>
 A.rd (Qb .eql false [t4,.int .i8 0] σ) fun t5=>ret t5 σ
 | _=>A.stop
abbrev n236:List (Option (List Nat)):=[]
theorem g236_ok:GOk prog GL0 236 2 g236:=gok2 (l:=n236) (by kernel_rfl) fun _ _ _ _ _ _=>by kernel_rfl
def g237:GFun:=fun A xs σ ret=>match xs with
 | [x0,x1]=>
 A.wr (Zo [x0] σ) σ fun t0 σ=>A.wr (Zo [x1] σ) σ fun t1 σ=>A.pu (Ya 0 [t0] σ) fun t2=>A.dr (Qa [t2] σ) σ fun t3 l4 σ=>A.pu (Ya 2 [t1] σ) fun t5=>
 A.dr (Ze true 4 [t5] σ) σ fun t6 l7 σ=>A.dcall (.call 251) [t6] σ fun t8 l9 σ=>A.dcall (.call 250) [t3,t8] σ fun t10 l11 σ=>A.dcall (.call 253) [t10,.int .i8 1] σ fun t12 l13 σ=>
 A.gd (Xk [[],[0],[],[2],[2,3],[0,1,2,3,4],[0,1,2,3,4,5],[0,1,2,3,4,5,6]] [([],[]),l4,([],[]),l7,l9,l11,l13,([],[])]) <| ret t12 σ
 | _=>A.stop
abbrev n237:List (Option (List Nat)):=[]
theorem g237_ok:GOk prog GL0 237 2 g237:=gok2 (l:=n237) (by kernel_rfl) fun _ _ _ _ _ _=>by kernel_rfl
def g238:GFun:=fun A xs σ ret=>match xs with
 | [x0,x1]=>
 A.wr (Zo [x0] σ) σ fun t0 σ=>A.wr (Zo [x1] σ) σ fun t1 σ=>A.pu (Ya 0 [t0] σ) fun t2=>A.dr (Qa [t2] σ) σ fun t3 l4 σ=>A.pu (Ya 7 [t1] σ) fun t5=>
 A.dr (Ze true 5 [t5] σ) σ fun t6 l7 σ=>A.dcall (.call 254) [t6] σ fun t8 l9 σ=>A.dcall (.call 250) [t3,t8] σ fun t10 l11 σ=>A.pu (Xg [.int .i8 0] [(0,1)] [t10] σ) fun t12=>
 A.dr (Yf [.int .i8 0] [] σ) σ fun t13 l14 σ=>A.dr (Zc 1 [t13,t12] σ) σ fun _ l15 σ=>A.gd (Xk [[],[0],[],[2],[2,3],[0,1,2,3,4],[0,1,2,3,4,5],[],[0,1,2,3,4,5,6,7]] [([],[]),l4,([],[]),l7,l9,l11,([],[]),l14,l15]) <|
 A.rd (Ze true 1 [t13] σ) fun t16=>A.rd (Ya 12 [t1] σ) fun t17=>A.rd (Qa [t17] σ) fun t18=>A.call (.call 222) [t16,t18] σ fun t19 σ=>A.got t19 (Ze true 1 [t13] σ) fun t20=>
 A.got t19 (Ya 13 [t1] σ) fun t21=>A.got t19 (Qa [t21] σ) fun t22=>A.gw t19 true (fun k=>A.call (.call 222) [t20,t22] σ k) σ fun t23 σ=>A.rd (Qc [t19,t23,.bool false] σ) fun t24=>
 ret t24 σ
 | _=>A.stop
abbrev n238:List (Option (List Nat)):=[]
theorem g238_ok:GOk prog GL0 238 2 g238:=gok2 (l:=n238) (by kernel_rfl) fun _ _ _ _ _ _=>by kernel_rfl
def g239:GFun:=fun A xs σ ret=>match xs with
 | [x0,x1]=>
 A.call (.call 255) [x0,x1] σ fun t0 σ=>A.rd (Qb .geq false [t0,jv 0] σ) fun t1=>ret t1 σ
 | _=>A.stop
abbrev n239:List (Option (List Nat)):=[]
theorem g239_ok:GOk prog GL0 239 2 g239:=gok2 (l:=n239) (by kernel_rfl) fun _ _ _ _ _ _=>by kernel_rfl
def g240:GFun:=fun A xs σ ret=>match xs with
 | [x0,x1,x2]=>
 A.wr (Zo [x0] σ) σ fun t0 σ=>A.rd (Ze true 1 [x1] σ) fun t1=>A.rd (Zp (.func 236) 1 [t1] σ) fun t2=>A.rd (Ya 0 [t0] σ) fun t3=>A.rd (Qa [t3] σ) fun t4=>
 A.rd (Qb .geq false [t4,.int .i8 0] σ) fun t5=>A.got t5 (Ya 0 [t0] σ) fun t6=>A.got t5 (Qa [t6] σ) fun t7=>A.got t5 (Xab .i64 [t7] σ) fun t8=>
 A.got t5 (Qb .lss false [t8,jv 9] σ) fun t9=>A.rd (Qc [t5,t9,.bool false] σ) fun t10=>joinK (fun k11=>A.test t10 (A.rd (Ya 0 [t0] σ) fun t13=>
 A.rd (Qa [t13] σ) fun t14=>A.rd (Yi 9 1 [x2,t14] σ) fun t15=>A.rd (Qa [t15] σ) fun t16=>k11 [t16] σ) (k11 [t2] σ)) (fun v12 σ=>A.rd (Ze true 14 [t0] σ) fun t17=>
 A.call .callv [(h0 v12),t17] σ fun t18 σ=>A.rd (Yp .not [t18] σ) fun t19=>ret t19 σ)
 | _=>A.stop
abbrev n240:List (Option (List Nat)):=[some [5]]
theorem g240_ok:GOk prog GL0 240 3 g240:=gok3 (l:=n240) (by kernel_rfl) fun _ _ _ _ _ _ _=>by kernel_rfl
end Go.Ah.Tz
end
section
namespace Go.Ah.Tz
open Go.Proofs.Tryz (prog)
set_option maxRecDepth 100000
def g241:GFun:=fun A xs σ ret=>match xs with
 | [x0]=>
 A.wr (Qbi [x0] σ) σ fun t0 σ=>A.loop (fun ag1 v2 σ=>A.wr (Za7 [t0] σ) σ fun t3 σ=>A.rd (Qe 0 [t3] σ) fun t4=>A.test t4 (A.rd (Qe 1 [t3] σ) fun t5=>
 A.rd (Qe 2 [t3] σ) fun t6=>A.call (.call 256) [t6] σ fun t7 σ=>A.rd (Yp .not [t7] σ) fun t8=>A.got t8 (Zj [t5] σ) fun t9=>A.got t8 (Qb .eql false [t9,jv 0] σ) fun t10=>
 A.got t8 (Zj [t10] σ) fun t11=>A.gof t11 (Zj [t6] σ) fun t12=>A.gw t11 false (fun k=>A.call (.call 257) [t12] σ k) σ fun t13 σ=>A.gof t11 (Yp .not [t13] σ) fun t14=>
 A.gof t11 (Zj [t14] σ) fun t15=>A.got t15 (Zj [t6] σ) fun t16=>A.got t15 (Qb .neq false [t16,.int .i32 39] σ) fun t17=>A.gof t11 (Qc [t15,t17,.bool false] σ) fun t18=>
 A.got t8 (Qc [t11,.bool true,t18] σ) fun t19=>A.rd (Qc [t8,t19,.bool false] σ) fun t20=>A.test t20 (ret (.tup [t5,(h0 v2)]) σ) (A.rd (Qb .add false [(h0 v2),jv 1] σ) fun t21=>
 ag1 [t21] σ)) (A.rd (Qq [x0] σ) fun t22=>ret (.tup [t22,(h0 v2)]) σ)) [jv 0] σ
 | _=>A.stop
abbrev n241:List (Option (List Nat)):=[none,some [3],none,none,none]
theorem g241_ok:GOk prog GL0 241 1 g241:=gok1 (l:=n241) (by kernel_rfl) fun _ _ _ _ _=>by kernel_rfl
def g242:GFun:=fun A xs σ ret=>match xs with
 | [x0]=>
 A.call (.call 258) [] σ fun t0 σ=>A.rd (Xt true false (.bool false) [t0,x0] σ) fun t1=>ret t1 σ
 | _=>A.stop
abbrev n242:List (Option (List Nat)):=[]
theorem g242_ok:GOk prog GL0 242 1 g242:=gok1 (l:=n242) (by kernel_rfl) fun _ _ _ _ _=>by kernel_rfl
def g243:GFun:=fun A xs σ ret=>match xs with
 | [x0,x1]=>
 A.wr (Yf [.str [],.bool false,jv 0,jv 0,jv 0,jv 0,jv 0,jv 0,.nils,.nils,.nils,jv 0] [] σ) σ fun t0 σ=>A.call (.call 259) [x0,x1] σ fun t1 σ=>
 A.rd (Qb .lss false [t1,jv 0] σ) fun t2=>A.test t2 (A.rd (Ze true 12 [t0] σ) fun t3=>A.wr (Zc 12 [t0,t3] σ) σ fun _ σ=>A.opt (cellV true 12 t0 σ) fun r4=>
 ret (.tup [r4,jv 0,.bool false]) σ) (A.rd (Xd 12 [x0,t1] σ) fun t5=>A.rd (Ze true 12 [t5] σ) fun t6=>A.wr (Zc 12 [t0,t6] σ) σ fun _ σ=>
 A.opt (cellV true 12 t0 σ) fun r7=>ret (.tup [r7,t1,.bool true]) σ)
 | _=>A.stop
abbrev n243:List (Option (List Nat)):=[none]
theorem g243_ok:GOk prog GL0 243 2 g243:=gok2 (l:=n243) (by kernel_rfl) fun _ _ _ _ _ _=>by kernel_rfl
def g244:GFun:=fun A xs σ ret=>match xs with
 | [x0,x1]=>
 A.wr (Zo [x0] σ) σ fun t0 σ=>A.rd (Ya 0 [t0] σ) fun t1=>A.rd (Qa [t1] σ) fun t2=>A.rd (Qa [x1] σ) fun t3=>A.rd (Qb .eql false [t2,t3] σ) fun t4=>
 ret t4 σ
 | _=>A.stop
abbrev n244:List (Option (List Nat)):=[]
theorem g244_ok:GOk prog GL0 244 2 g244:=gok2 (l:=n244) (by kernel_rfl) fun _ _ _ _ _ _=>by kernel_rfl
def g245:GFun:=fun A xs σ ret=>match xs with
 | [x0,x1]=>
 A.call (.call 201) [x0,(.str [109,101])] σ fun t0 σ=>A.test t0 (ret (.int .i8 0) σ) (A.call (.call 201) [x0,(.str [102,111,101])] σ fun t1 σ=>A.test t1 (
 ret (.int .i8 1) σ) (A.got x1 (Zj [x0] σ) fun t2=>A.gw x1 true (fun k=>A.call (.call 201) [t2,(.str [116,97,114,103,101,116])] σ k) σ fun t3 σ=>A.rd (Qc [x1,t3,.bool false] σ) fun t4=>
 A.test t4 (ret (.int .i8 2) σ) (A.call (.call 152) [x0,jv 120] σ fun t5 σ=>ret (.int .i8 0) σ)))
 | _=>A.stop
abbrev n245:List (Option (List Nat)):=[none,none,none,none]
theorem g245_ok:GOk prog GL0 245 2 g245:=gok2 (l:=n245) (by kernel_rfl) fun _ _ _ _ _ _=>by kernel_rfl
def g246:GFun:=fun A xs σ ret=>match xs with
 | [x0]=>
 A.wr (Yf zq2 [] σ) σ fun t0 σ=>A.call (.call 260) [x0] σ fun t1 σ=>A.wr (Yf zq2 [] σ) σ fun t2 σ=>A.wr (Zc 4 [t2,t1] σ) σ fun _ σ=>joinK (fun k3=>
 A.loop (fun ag5 v6 σ=>A.call (.call 150) [x0] σ fun t7 σ=>A.test t7 (A.call (.call 151) [x0,(.str [45])] σ fun t8 σ=>joinK (fun k9=>A.test t8 (k9 [.int .i8 9] σ) (
 k9 [.int .i8 8] σ)) (fun v10 σ=>A.call (.call 201) [x0,(.str [43])] σ fun t11 σ=>A.rd (Yp .not [t11] σ) fun t12=>A.got t12 (Zj [x0] σ) fun t13=>A.gw t12 true (fun k=>A.call (.call 201) [t13,(.str [45])] σ k) σ fun t14 σ=>
 A.got t12 (Yp .not [t14] σ) fun t15=>A.rd (Qc [t12,t15,.bool false] σ) fun t16=>A.test t16 (k3 [] σ) (A.call (.call 260) [x0] σ fun t17 σ=>A.wr (Yf zq2 [] σ) σ fun t18 σ=>
 A.wr (Zc 4 [t18,t17] σ) σ fun _ σ=>A.rd (Ze true 4 [t2] σ) fun t19=>A.rd (Ze true 4 [t18] σ) fun t20=>A.call (.call 261) [(h0 v10),t19,t20] σ fun t21 σ=>
 A.wr (Zc 4 [t2,t21] σ) σ fun _ σ=>ag5 [] σ))) (k3 [] σ)) [] σ) (fun v4 σ=>A.rd (Ze true 4 [t2] σ) fun t22=>A.wr (Zc 4 [t0,t22] σ) σ fun _ σ=>
 A.opt (cellV true 4 t0 σ) fun r23=>ret r23 σ)
 | _=>A.stop
abbrev n246:List (Option (List Nat)):=[some [],some [],none,none,some [4],none]
theorem g246_ok:GOk prog GL0 246 1 g246:=gok1 (l:=n246) (by kernel_rfl) fun _ _ _ _ _=>by kernel_rfl
def g247:GFun:=fun A xs σ ret=>match xs with
 | [x0]=>
 A.rd (Xb [x0] σ) fun t0=>A.rd (Ya 2 [t0] σ) fun t1=>A.rd (Qa [t1] σ) fun t2=>A.rd (Qb .add false [t2,jv 1] σ) fun t3=>A.rd (Xb [x0] σ) fun t4=>
 A.rd (Ya 2 [t4] σ) fun t5=>A.wr (Zc 1 [t5,t3] σ) σ fun _ σ=>A.rd (Xb [x0] σ) fun t6=>A.rd (Ya 2 [t6] σ) fun t7=>A.rd (Qa [t7] σ) fun t8=>
 A.rd (Qb .gtr false [t8,jv 8] σ) fun t9=>A.test t9 (A.call (.call 152) [x0,jv 121] σ fun t10 σ=>ret (.tup []) σ) (ret (.tup []) σ)
 | _=>A.stop
abbrev n247:List (Option (List Nat)):=[none]
theorem g247_ok:GOk prog GL0 247 1 g247:=gok1 (l:=n247) (by kernel_rfl) fun _ _ _ _ _=>by kernel_rfl
def g248:GFun:=fun A xs σ ret=>match xs with
 | [x0]=>
 A.wr (Yf [.int .i8 0,.int .i8 0,.str [],.nils,.nils] [] σ) σ fun t0 σ=>A.call (.call 262) [x0] σ fun t1 σ=>A.wr (Yf [.int .i8 0,.int .i8 0,.str [],.nils,.nils] [] σ) σ fun t2 σ=>
 A.wr (Zc 5 [t2,t1] σ) σ fun _ σ=>A.loop (fun ag3 v4 σ=>A.call (.call 201) [x0,(.str [111,114])] σ fun t5 σ=>A.test t5 (A.call (.call 262) [x0] σ fun t6 σ=>
 A.wr (Yf [.int .i8 0,.int .i8 0,.str [],.nils,.nils] [] σ) σ fun t7 σ=>A.wr (Zc 5 [t7,t6] σ) σ fun _ σ=>A.rd (Ze true 5 [t2] σ) fun t8=>
 A.rd (Ze true 5 [t7] σ) fun t9=>A.wr (Yl 5 2 [.int .i8 0,.int .i8 0,.str [],.nils,.nils,.int .i8 0,.int .i8 0,.str [],.nils,.nils] [(0,5),(5,5)] [t8,t9] σ) σ fun t10 σ=>
 A.rd (Xg [.int .i8 0,.int .i8 0,.str [],.nils,.nils] [(0,1),(4,1)] [.int .i8 5,t10] σ) fun t11=>A.wr (Zc 5 [t2,t11] σ) σ fun _ σ=>ag3 [] σ) (
 A.rd (Ze true 5 [t2] σ) fun t12=>A.wr (Zc 5 [t0,t12] σ) σ fun _ σ=>A.opt (cellV true 5 t0 σ) fun r13=>ret r13 σ)) [] σ
 | _=>A.stop
abbrev n248:List (Option (List Nat)):=[none,some [],none,none]
theorem g248_ok:GOk prog GL0 248 1 g248:=gok1 (l:=n248) (by kernel_rfl) fun _ _ _ _ _=>by kernel_rfl
def g249:GFun:=fun A xs σ ret=>match xs with
 | [x0]=>
 A.rd (Xb [x0] σ) fun t0=>A.rd (Ya 2 [t0] σ) fun t1=>A.rd (Qa [t1] σ) fun t2=>A.rd (Qb .sub false [t2,jv 1] σ) fun t3=>A.rd (Xb [x0] σ) fun t4=>
 A.rd (Ya 2 [t4] σ) fun t5=>A.wr (Zc 1 [t5,t3] σ) σ fun _ σ=>ret (.tup []) σ
 | _=>A.stop
abbrev n249:List (Option (List Nat)):=[]
theorem g249_ok:GOk prog GL0 249 1 g249:=gok1 (l:=n249) (by kernel_rfl) fun _ _ _ _ _=>by kernel_rfl
def g250:GFun:=fun A xs σ ret=>match xs with
 | [x0,x1]=>
 A.dcall (.call 263) [] σ fun t0 l1 σ=>A.dcall (.call 252) [x0] σ fun t2 l3 σ=>A.pu (Y3 true 4 4 [t0,t2] σ) fun t4=>A.dcall (.call 252) [x1] σ fun t5 l6 σ=>
 A.pu (Y3 false 4 1 [t4,t5] σ) fun t7=>A.gd (Xk [[],[],[0,1],[0,1,2],[],[0,1,2,4],[0,1,2,3,4,5],[0,1,2,3,4,5,6]] [l1,([],[]),l3,([],[]),([],[]),l6,([],[]),([],[])]) <|
 ret t7 σ
 | _=>A.stop
abbrev n250:List (Option (List Nat)):=[]
theorem g250_ok:GOk prog GL0 250 2 g250:=gok2 (l:=n250) (by kernel_rfl) fun _ _ _ _ _ _=>by kernel_rfl
def g251:GFun:=fun A xs σ ret=>match xs with
 | [x0]=>
 A.wr (Zo [x0] σ) σ fun t0 σ=>A.rd (Ya 0 [t0] σ) fun t1=>A.rd (Qa [t1] σ) fun t2=>A.rd (Qb .eql false [t2,.int .i8 6] σ) fun t3=>A.test t3 (
 ret (.int .i8 3) σ) (A.rd (Ya 0 [t0] σ) fun t4=>A.rd (Qa [t4] σ) fun t5=>A.rd (Qb .geq false [t5,.int .i8 8] σ) fun t6=>A.got t6 (Ya 0 [t0] σ) fun t7=>
 A.got t6 (Qa [t7] σ) fun t8=>A.got t6 (Qb .leq false [t8,.int .i8 12] σ) fun t9=>A.rd (Qc [t6,t9,.bool false] σ) fun t10=>A.test t10 (A.rd (Ya 3 [t0] σ) fun t11=>
 A.rd (Qa [t11] σ) fun t12=>A.rd (Qg [t12] σ) fun t13=>A.loop (fun ag14 v15 σ=>A.rd (Qb .lss false [(h0 v15),t13] σ) fun t16=>A.test t16 (A.rd (Xd 4 [t12,(h0 v15)] σ) fun t17=>
 A.rd (Ze true 4 [t17] σ) fun t18=>A.wr (Yf zq2 [] σ) σ fun t19 σ=>A.wr (Zc 4 [t19,t18] σ) σ fun _ σ=>A.rd (Ze true 4 [t19] σ) fun t20=>A.call (.call 251) [t20] σ fun t21 σ=>
 A.call (.call 250) [(h1 v15),t21] σ fun t22 σ=>A.rd (Qb .add false [(h0 v15),jv 1] σ) fun t23=>ag14 [t23,t22] σ) (ret (h1 v15) σ)) [jv 0,.int .i8 0] σ) (
 ret (.int .i8 0) σ))
 | _=>A.stop
abbrev n251:List (Option (List Nat)):=[none,none,none,none,some [22,3],none,none]
theorem g251_ok:GOk prog GL0 251 1 g251:=gok1 (l:=n251) (by kernel_rfl) fun _ _ _ _ _=>by kernel_rfl
def g252:GFun:=fun A xs σ ret=>match xs with
 | [x0]=>
 A.rd (Qb .lss false [x0,.int .i8 0] σ) fun t0=>A.gof t0 (Zj [x0] σ) fun t1=>A.gof t0 (Qb .gtr false [t1,.int .i8 3] σ) fun t2=>A.rd (Qc [t0,.bool true,t2] σ) fun t3=>
 A.test t3 (ret (.int .i8 3) σ) (ret x0 σ)
 | _=>A.stop
abbrev n252:List (Option (List Nat)):=[none]
theorem g252_ok:GOk prog GL0 252 1 g252:=gok1 (l:=n252) (by kernel_rfl) fun _ _ _ _ _=>by kernel_rfl
def g253:GFun:=fun A xs σ ret=>match xs with
 | [x0,x1]=>
 A.call (.call 250) [x0,x1] σ fun t0 σ=>A.call (.call 252) [x1] σ fun t1 σ=>A.rd (Qb .eql false [t0,t1] σ) fun t2=>ret t2 σ
 | _=>A.stop
abbrev n253:List (Option (List Nat)):=[]
theorem g253_ok:GOk prog GL0 253 2 g253:=gok2 (l:=n253) (by kernel_rfl) fun _ _ _ _ _ _=>by kernel_rfl
def g254:GFun:=fun A xs σ ret=>match xs with
 | [x0]=>
 A.wr (Zo [x0] σ) σ fun t0 σ=>A.rd (Ya 0 [t0] σ) fun t1=>A.rd (Qa [t1] σ) fun t2=>A.rd (Qb .eql false [t2,.int .i8 6] σ) fun t3=>A.test t3 (
 A.rd (Ya 1 [t0] σ) fun t4=>A.rd (Qa [t4] σ) fun t5=>A.rd (Qb .eql false [t5,.int .i8 0] σ) fun t6=>A.test t6 (ret (.int .i8 1) σ) (A.rd (Qb .eql false [t5,.int .i8 1] σ) fun t7=>
 A.test t7 (ret (.int .i8 2) σ) (ret (.int .i8 3) σ))) (A.rd (Ya 3 [t0] σ) fun t8=>A.rd (Qa [t8] σ) fun t9=>A.rd (Qg [t9] σ) fun t10=>A.loop (fun ag11 v12 σ=>
 A.rd (Qb .lss false [(h0 v12),t10] σ) fun t13=>A.test t13 (A.rd (Xd 4 [t9,(h0 v12)] σ) fun t14=>A.rd (Ze true 4 [t14] σ) fun t15=>A.wr (Yf zq2 [] σ) σ fun t16 σ=>
 A.wr (Zc 4 [t16,t15] σ) σ fun _ σ=>A.rd (Ze true 4 [t16] σ) fun t17=>A.call (.call 251) [t17] σ fun t18 σ=>A.call (.call 250) [(h1 v12),t18] σ fun t19 σ=>
 A.rd (Qb .add false [(h0 v12),jv 1] σ) fun t20=>ag11 [t20,t19] σ) (A.rd (Ya 4 [t0] σ) fun t21=>A.rd (Qa [t21] σ) fun t22=>A.rd (Qg [t22] σ) fun t23=>
 A.loop (fun ag24 v25 σ=>A.rd (Qb .lss false [(h0 v25),t23] σ) fun t26=>A.test t26 (A.rd (Xd 5 [t22,(h0 v25)] σ) fun t27=>A.rd (Ze true 5 [t27] σ) fun t28=>
 A.wr (Yf [.int .i8 0,.int .i8 0,.str [],.nils,.nils] [] σ) σ fun t29 σ=>A.wr (Zc 5 [t29,t28] σ) σ fun _ σ=>A.rd (Ze true 5 [t29] σ) fun t30=>
 A.call (.call 254) [t30] σ fun t31 σ=>A.call (.call 250) [(h1 v25),t31] σ fun t32 σ=>A.rd (Qb .add false [(h0 v25),jv 1] σ) fun t33=>ag24 [t33,t32] σ) (
 ret (h1 v25) σ)) [jv 0,(h1 v12)] σ)) [jv 0,.int .i8 0] σ)
 | _=>A.stop
abbrev n254:List (Option (List Nat)):=[none,none,none,none,none,some [20,3],none,none,none,some [32,3],none,none]
theorem g254_ok:GOk prog GL0 254 1 g254:=gok1 (l:=n254) (by kernel_rfl) fun _ _ _ _ _=>by kernel_rfl
def g255:GFun:=fun A xs σ ret=>match xs with
 | [x0,x1]=>
 A.rd (Qg [x0] σ) fun t0=>A.loop (fun ag1 v2 σ=>A.rd (Qb .lss false [(h0 v2),t0] σ) fun t3=>A.test t3 (A.rd (Xd 14 [x0,(h0 v2)] σ) fun t4=>A.rd (Ze true 14 [t4] σ) fun t5=>
 A.call .callv [x1,t5] σ fun t6 σ=>A.test t6 (ret (h0 v2) σ) (A.rd (Qb .add false [(h0 v2),jv 1] σ) fun t7=>ag1 [t7] σ)) (ret (jv (-1)) σ)) [jv 0] σ
 | _=>A.stop
abbrev n255:List (Option (List Nat)):=[none,some [8],none,none,none]
theorem g255_ok:GOk prog GL0 255 2 g255:=gok2 (l:=n255) (by kernel_rfl) fun _ _ _ _ _ _=>by kernel_rfl
def g256:GFun:=fun A xs σ ret=>match xs with
 | [x0]=>
 A.rd (Qb .geq false [x0,.int .i32 97] σ) fun t0=>A.got t0 (Zj [x0] σ) fun t1=>A.got t0 (Qb .leq false [t1,.int .i32 122] σ) fun t2=>A.rd (Qc [t0,t2,.bool false] σ) fun t3=>
 joinK (fun k4=>A.test t3 (k4 [t3] σ) (A.rd (Qb .geq false [x0,.int .i32 65] σ) fun t6=>A.got t6 (Zj [x0] σ) fun t7=>A.got t6 (Qb .leq false [t7,.int .i32 90] σ) fun t8=>
 A.rd (Qc [t6,t8,.bool false] σ) fun t9=>k4 [t9] σ)) (fun v5 σ=>A.test (h0 v5) (ret (.bool true) σ) (A.rd (Qb .eql false [x0,.int .i32 215] σ) fun t10=>
 joinK (fun k11=>A.test t10 (k11 [t10] σ) (A.rd (Qb .eql false [x0,.int .i32 247] σ) fun t13=>k11 [t13] σ)) (fun v12 σ=>A.test (h0 v12) (ret (.bool false) σ) (
 A.rd (Qb .geq false [x0,.int .i32 192] σ) fun t14=>A.got t14 (Zj [x0] σ) fun t15=>A.got t14 (Qb .leq false [t15,.int .i32 591] σ) fun t16=>A.rd (Qc [t14,t16,.bool false] σ) fun t17=>
 ret t17 σ))))
 | _=>A.stop
abbrev n256:List (Option (List Nat)):=[none,some [3],none,some [16],none]
theorem g256_ok:GOk prog GL0 256 1 g256:=gok1 (l:=n256) (by kernel_rfl) fun _ _ _ _ _=>by kernel_rfl
def g257:GFun:=fun A xs σ ret=>match xs with
 | [x0]=>
 A.rd (Qb .geq false [x0,.int .i32 48] σ) fun t0=>A.got t0 (Zj [x0] σ) fun t1=>A.got t0 (Qb .leq false [t1,.int .i32 57] σ) fun t2=>A.rd (Qc [t0,t2,.bool false] σ) fun t3=>
 ret t3 σ
 | _=>A.stop
abbrev n257:List (Option (List Nat)):=[]
theorem g257_ok:GOk prog GL0 257 1 g257:=gok1 (l:=n257) (by kernel_rfl) fun _ _ _ _ _=>by kernel_rfl
def g258:GFun:=fun A xs σ ret=>match xs with
 | []=>
 A.wr (XG [] σ) σ fun t0 σ=>A.call (.call 264) [(.str [99,97,114,100,32,117,110,105,116,32,99,104,97,114,109,32,102,111,114,109,97,116,32,112,108,97,121,101,100,32,100,101,97,100,32,100,97,119,110,32,97,117,114,97,32,115,104,105,101,108,100,32,104,97,114,109,32,109,101,110,100,32,100,114,97,119,32,103,97,105,110,32,100,114,111,112,32,108,111,111,107,32,115,104,111,119,32,115,117,109,109,111,110,32,105,102,32,101,108,115,101,32,109,101,32,102,111,101,32,116,97,114,103,101,116,32,108,105,102,101,32,104,97,110,100,32,100,101,99,107,32,117,110,105,116,115,32,109,97,110,97,32,99,111,115,116,32,116,111,112,32,112,111,119,101,114,32,109,105,110,32,109,97,120,32,110,111,116,32,97,110,100,32,111,114,32,104,111,108,100,115,32,108,101,97,115,116,32,109,111,115,116,32,99,111,112,105,101,115,32,98,97,110,110,101,100,32,115,105,110,103,108,101])] σ fun t1 σ=>
 A.rd (Qg [t1] σ) fun t2=>A.loop (fun ag3 v4 σ=>A.rd (Qb .lss false [(h0 v4),t2] σ) fun t5=>A.test t5 (A.rd (Xd 1 [t1,(h0 v4)] σ) fun t6=>A.rd (Qa [t6] σ) fun t7=>
 A.wr (ZA true [t0,t7,.bool true] σ) σ fun _ σ=>A.rd (Qb .add false [(h0 v4),jv 1] σ) fun t8=>ag3 [t8] σ) (ret t0 σ)) [jv 0] σ
 | _=>A.stop
abbrev n258:List (Option (List Nat)):=[none,some [7],none,none]
theorem g258_ok:GOk prog GL0 258 0 g258:=gok0 (l:=n258) (by kernel_rfl) fun _ _ _ _=>by kernel_rfl
def g259:GFun:=fun A xs σ ret=>match xs with
 | [x0,x1]=>
 A.rd (Qg [x0] σ) fun t0=>A.loop (fun ag1 v2 σ=>A.rd (Qb .lss false [(h0 v2),t0] σ) fun t3=>A.test t3 (A.rd (Xd 12 [x0,(h0 v2)] σ) fun t4=>A.rd (Ze true 12 [t4] σ) fun t5=>
 A.call .callv [x1,t5] σ fun t6 σ=>A.test t6 (ret (h0 v2) σ) (A.rd (Qb .add false [(h0 v2),jv 1] σ) fun t7=>ag1 [t7] σ)) (ret (jv (-1)) σ)) [jv 0] σ
 | _=>A.stop
abbrev n259:List (Option (List Nat)):=[none,some [8],none,none,none]
theorem g259_ok:GOk prog GL0 259 2 g259:=gok2 (l:=n259) (by kernel_rfl) fun _ _ _ _ _ _=>by kernel_rfl
def g260:GFun:=fun A xs σ ret=>match xs with
 | [x0]=>
 A.wr (Yf zq2 [] σ) σ fun t0 σ=>A.call (.call 265) [x0] σ fun t1 σ=>A.wr (Yf zq2 [] σ) σ fun t2 σ=>A.wr (Zc 4 [t2,t1] σ) σ fun _ σ=>A.loop (fun ag3 v4 σ=>
 A.call (.call 201) [x0,(.str [42])] σ fun t5 σ=>A.test t5 (A.call (.call 265) [x0] σ fun t6 σ=>A.wr (Yf zq2 [] σ) σ fun t7 σ=>A.wr (Zc 4 [t7,t6] σ) σ fun _ σ=>
 A.rd (Ze true 4 [t2] σ) fun t8=>A.rd (Ze true 4 [t7] σ) fun t9=>A.call (.call 261) [.int .i8 10,t8,t9] σ fun t10 σ=>A.wr (Zc 4 [t2,t10] σ) σ fun _ σ=>
 ag3 [] σ) (A.rd (Ze true 4 [t2] σ) fun t11=>A.wr (Zc 4 [t0,t11] σ) σ fun _ σ=>A.opt (cellV true 4 t0 σ) fun r12=>ret r12 σ)) [] σ
 | _=>A.stop
abbrev n260:List (Option (List Nat)):=[none,some [],none,none]
theorem g260_ok:GOk prog GL0 260 1 g260:=gok1 (l:=n260) (by kernel_rfl) fun _ _ _ _ _=>by kernel_rfl
def g261:GFun:=fun A xs σ ret=>match xs with
 | [x0,x1,x2]=>
 A.wr (Zo [x1] σ) σ fun t0 σ=>A.wr (Zo [x2] σ) σ fun t1 σ=>A.wr (Yf zq2 [] σ) σ fun t2 σ=>A.rd (Ze true 4 [t0] σ) fun t3=>A.rd (Ze true 4 [t1] σ) fun t4=>
 A.wr (Yl 4 2 [.int .i8 0,jv 0,.int .i8 0,.nils,.int .i8 0,jv 0,.int .i8 0,.nils] [(0,4),(4,4)] [t3,t4] σ) σ fun t5 σ=>A.rd (Xg zq2 [(0,1),(3,1)] [x0,t5] σ) fun t6=>
 A.wr (Zc 4 [t2,t6] σ) σ fun _ σ=>A.opt (cellV true 4 t2 σ) fun r7=>ret r7 σ
 | _=>A.stop
abbrev n261:List (Option (List Nat)):=[]
theorem g261_ok:GOk prog GL0 261 3 g261:=gok3 (l:=n261) (by kernel_rfl) fun _ _ _ _ _ _ _=>by kernel_rfl
def g262:GFun:=fun A xs σ ret=>match xs with
 | [x0]=>
 A.wr (Yf [.int .i8 0,.int .i8 0,.str [],.nils,.nils] [] σ) σ fun t0 σ=>A.call (.call 266) [x0] σ fun t1 σ=>A.wr (Yf [.int .i8 0,.int .i8 0,.str [],.nils,.nils] [] σ) σ fun t2 σ=>
 A.wr (Zc 5 [t2,t1] σ) σ fun _ σ=>A.loop (fun ag3 v4 σ=>A.call (.call 201) [x0,(.str [97,110,100])] σ fun t5 σ=>A.test t5 (A.call (.call 266) [x0] σ fun t6 σ=>
 A.wr (Yf [.int .i8 0,.int .i8 0,.str [],.nils,.nils] [] σ) σ fun t7 σ=>A.wr (Zc 5 [t7,t6] σ) σ fun _ σ=>A.rd (Ze true 5 [t2] σ) fun t8=>
 A.rd (Ze true 5 [t7] σ) fun t9=>A.wr (Yl 5 2 [.int .i8 0,.int .i8 0,.str [],.nils,.nils,.int .i8 0,.int .i8 0,.str [],.nils,.nils] [(0,5),(5,5)] [t8,t9] σ) σ fun t10 σ=>
 A.rd (Xg [.int .i8 0,.int .i8 0,.str [],.nils,.nils] [(0,1),(4,1)] [.int .i8 4,t10] σ) fun t11=>A.wr (Zc 5 [t2,t11] σ) σ fun _ σ=>ag3 [] σ) (
 A.rd (Ze true 5 [t2] σ) fun t12=>A.wr (Zc 5 [t0,t12] σ) σ fun _ σ=>A.opt (cellV true 5 t0 σ) fun r13=>ret r13 σ)) [] σ
 | _=>A.stop
abbrev n262:List (Option (List Nat)):=[none,some [],none,none]
theorem g262_ok:GOk prog GL0 262 1 g262:=gok1 (l:=n262) (by kernel_rfl) fun _ _ _ _ _=>by kernel_rfl
def g263:GFun:=fun A xs σ ret=>match xs with
 | []=>
 A.wr (Yf [.int .i8 0,.int .i8 0,.int .i8 0,.int .i8 0,.int .i8 0,.int .i8 0,.int .i8 0,.int .i8 0,.int .i8 0,.int .i8 0,.int .i8 0,.int .i8 0,.int .i8 0,.int .i8 0,.int .i8 0,.int .i8 0] [] σ) σ fun t0 σ=>
 A.rd (Xg zq5 [(0,1),(1,1),(2,1),(3,1)] [.int .i8 0,.int .i8 1,.int .i8 2,.int .i8 3] σ) fun t1=>A.rd (Xg zq5 [(0,1),(1,1),(2,1),(3,1)] [.int .i8 1,.int .i8 1,.int .i8 3,.int .i8 3] σ) fun t2=>
 A.rd (Xg zq5 [(0,1),(1,1),(2,1),(3,1)] [.int .i8 2,.int .i8 3,.int .i8 2,.int .i8 3] σ) fun t3=>A.rd (Xg zq5 [(0,1),(1,1),(2,1),(3,1)] [.int .i8 3,.int .i8 3,.int .i8 3,.int .i8 3] σ) fun t4=>
 A.rd (Xg [.int .i8 0,.int .i8 0,.int .i8 0,.int .i8 0,.int .i8 0,.int .i8 0,.int .i8 0,.int .i8 0,.int .i8 0,.int .i8 0,.int .i8 0,.int .i8 0,.int .i8 0,.int .i8 0,.int .i8 0,.int .i8 0] [(0,4),(4,4),(8,4),(12,4)] [t1,t2,t3,t4] σ) fun t5=>
 A.wr (Zc 16 [t0,t5] σ) σ fun _ σ=>A.opt (cellV true 16 t0 σ) fun r6=>ret r6 σ
 | _=>A.stop
abbrev n263:List (Option (List Nat)):=[]
theorem g263_ok:GOk prog GL0 263 0 g263:=gok0 (l:=n263) (by kernel_rfl) fun _ _ _ _=>by kernel_rfl
def g264:GFun:=fun A xs σ ret=>match xs with
 | [x0]=>
 A.loop (fun ag0 v1 σ=>A.rd (Qq [x0] σ) fun t2=>A.rd (Qb .lss false [(h0 v1),t2] σ) fun t3=>A.test t3 (A.rd (Qy [x0,(h0 v1)] σ) fun t4=>A.rd (Qb .or false [(h1 v1),t4] σ) fun t5=>
 A.rd (Yi 256 1 [(.rptr row0 0),t4] σ) fun t6=>A.rd (Qa [t6] σ) fun t7=>A.rd (Xab .i64 [t7] σ) fun t8=>A.rd (Yp .xor [t8] σ) fun t9=>A.rd (Qb .and false [(h3 v1),t9] σ) fun t10=>
 A.rd (Qb .add false [(h2 v1),t10] σ) fun t11=>A.rd (Qb .add false [(h0 v1),jv 1] σ) fun t12=>ag0 [t12,t5,t11,t8] σ) (A.rd (Qb .geq false [(h1 v1),.int .u8 128] σ) fun t13=>
 A.test t13 (A.call (.call 267) [x0,(.func (.func 268) [] [])] σ fun t14 σ=>ret t14 σ) (A.wr (Ybf 1 16 [.str []] [(h2 v1)] σ) σ fun t15 σ=>A.loop (fun ag16 v17 σ=>
 A.rd (Qq [x0] σ) fun t18=>A.rd (Qb .lss false [(h0 v17),t18] σ) fun t19=>A.got t19 (Zj [x0] σ) fun t20=>A.got t19 (Zj [(h0 v17)] σ) fun t21=>A.got t19 (Qy [t20,t21] σ) fun t22=>
 A.got t19 (Yi 256 1 [(.rptr row0 0),t22] σ) fun t23=>A.got t19 (Qa [t23] σ) fun t24=>A.got t19 (Qb .neq false [t24,.int .u8 0] σ) fun t25=>
 A.rd (Qc [t19,t25,.bool false] σ) fun t26=>A.test t26 (A.rd (Qb .add false [(h0 v17),jv 1] σ) fun t27=>ag16 [t27] σ) (A.loop (fun ag28 v29 σ=>A.rd (Qq [x0] σ) fun t30=>
 A.rd (Qb .lss false [(h0 v29),t30] σ) fun t31=>A.test t31 (A.rd (Qy [x0,(h0 v29)] σ) fun t32=>A.rd (Yi 256 1 [(.rptr row0 0),t32] σ) fun t33=>
 A.rd (Qa [t33] σ) fun t34=>A.rd (Qb .eql false [t34,.int .u8 0] σ) fun t35=>A.test t35 (A.rd (Qb .add false [(h0 v29),jv 1] σ) fun t36=>ag28 [t36,(h1 v29),(h2 v29)] σ) (
 A.rd (YV [x0,(h2 v29),(h0 v29)] σ) fun t37=>A.rd (Xd 1 [t15,(h1 v29)] σ) fun t38=>A.wr (Zc 1 [t38,t37] σ) σ fun _ σ=>A.rd (Qb .add false [(h1 v29),jv 1] σ) fun t39=>
 A.rd (Qb .add false [(h0 v29),jv 1] σ) fun t40=>A.loop (fun ag41 v42 σ=>A.rd (Qq [x0] σ) fun t43=>A.rd (Qb .lss false [(h0 v42),t43] σ) fun t44=>
 A.got t44 (Zj [x0] σ) fun t45=>A.got t44 (Zj [(h0 v42)] σ) fun t46=>A.got t44 (Qy [t45,t46] σ) fun t47=>A.got t44 (Yi 256 1 [(.rptr row0 0),t47] σ) fun t48=>
 A.got t44 (Qa [t48] σ) fun t49=>A.got t44 (Qb .neq false [t49,.int .u8 0] σ) fun t50=>A.rd (Qc [t44,t50,.bool false] σ) fun t51=>A.test t51 (
 A.rd (Qb .add false [(h0 v42),jv 1] σ) fun t52=>ag41 [t52] σ) (ag28 [(h0 v42),t39,(h0 v42)] σ)) [t40] σ)) (A.rd (Qq [x0] σ) fun t53=>A.rd (Qb .lss false [(h2 v29),t53] σ) fun t54=>
 A.test t54 (A.rd (Yae [x0,(h2 v29)] σ) fun t55=>A.rd (Xd 1 [t15,(h1 v29)] σ) fun t56=>A.wr (Zc 1 [t56,t55] σ) σ fun _ σ=>ret t15 σ) (
 ret t15 σ))) [(h0 v17),jv 0,(h0 v17)] σ)) [jv 0] σ))) [jv 0,.int .u8 0,jv 0,jv 1] σ
 | _=>A.stop
abbrev n264:List (Option (List Nat)):=[none,some [6,5,3,4],none,none,none,none,some [12],none,none,none,some [12,10,11],none,none,none,none,some [12],none,none,none]
theorem g264_ok:GOk prog GL0 264 1 g264:=gok1 (l:=n264) (by kernel_rfl) fun _ _ _ _ _=>by kernel_rfl
def g265:GFun:=fun A xs σ ret=>match xs with
 | [x0]=>
 A.wr (Yf zq2 [] σ) σ fun t0 σ=>A.pu (Xb [x0] σ) fun t1=>A.pu (Ya 0 [t1] σ) fun t2=>A.dr (Qa [t2] σ) σ fun t3 l4 σ=>A.pu (Xb [x0] σ) fun t5=>
 A.pu (Ya 1 [t5] σ) fun t6=>A.dr (Qa [t6] σ) σ fun t7 l8 σ=>A.dr (Xd 4 [t3,t7] σ) σ fun t9 l10 σ=>A.dr (Ze true 4 [t9] σ) σ fun t11 l12 σ=>
 A.dr (Yf [.int .i8 0,.str [],jv 0,jv 0] [] σ) σ fun t13 l14 σ=>A.dr (Zc 4 [t13,t11] σ) σ fun _ l15 σ=>A.gd (Xk [[],[0],[0,1],[0,1,2],[],[4],[4,5],[4,5,6],[0,1,2,3,4,5,6,7],[0,1,2,3,4,5,6,7,8],[],[0,1,2,3,4,5,6,7,8,9,10]] [([],[]),([],[]),([],[]),l4,([],[]),([],[]),([],[]),l8,l10,l12,l14,l15]) <|
 A.call (.call 150) [x0] σ fun t16 σ=>A.got t16 (Ya 0 [t13] σ) fun t17=>A.got t16 (Qa [t17] σ) fun t18=>A.got t16 (Qb .eql false [t18,.int .i8 2] σ) fun t19=>
 A.rd (Qc [t16,t19,.bool false] σ) fun t20=>A.test t20 (A.rd (Xb [x0] σ) fun t21=>A.rd (Ya 1 [t21] σ) fun t22=>A.rd (Qa [t22] σ) fun t23=>
 A.rd (Qb .add false [t23,jv 1] σ) fun t24=>A.rd (Xb [x0] σ) fun t25=>A.rd (Ya 1 [t25] σ) fun t26=>A.wr (Zc 1 [t26,t24] σ) σ fun _ σ=>
 A.rd (Ya 2 [t13] σ) fun t27=>A.rd (Qa [t27] σ) fun t28=>A.rd (Xg zq2 [(1,1)] [t28] σ) fun t29=>A.wr (Zc 4 [t0,t29] σ) σ fun _ σ=>A.opt (cellV true 4 t0 σ) fun r30=>
 ret r30 σ) (A.wr (Yl 1 5 [.str [],.str [],.str [],.str [],.str []] [(0,1),(1,1),(2,1),(3,1),(4,1)] [.str [],(.str [108,105,102,101]),(.str [104,97,110,100]),(.str [100,101,99,107]),(.str [117,110,105,116,115])] σ) σ fun t31 σ=>
 A.loop (fun ag32 v33 σ=>A.rd (Qg [t31] σ) fun t34=>A.rd (Qb .lss false [(h0 v33),t34] σ) fun t35=>A.test t35 (A.rd (Xd 1 [t31,(h0 v33)] σ) fun t36=>
 A.rd (Qa [t36] σ) fun t37=>A.call (.call 201) [x0,t37] σ fun t38 σ=>A.test t38 (A.call (.call 203) [x0,(.str [40])] σ fun t39 σ=>A.rd (Xab .i8 [(h0 v33)] σ) fun t40=>
 A.call (.call 245) [x0,.bool false] σ fun t41 σ=>A.rd (Xg zq2 [(0,1),(2,1)] [t40,t41] σ) fun t42=>A.wr (Yf zq2 [] σ) σ fun t43 σ=>A.wr (Zc 4 [t43,t42] σ) σ fun _ σ=>
 A.call (.call 203) [x0,(.str [41])] σ fun t44 σ=>A.rd (Ze true 4 [t43] σ) fun t45=>A.wr (Zc 4 [t0,t45] σ) σ fun _ σ=>A.opt (cellV true 4 t0 σ) fun r46=>
 ret r46 σ) (A.rd (Qb .add false [(h0 v33),jv 1] σ) fun t47=>ag32 [t47] σ)) (A.call (.call 201) [x0,(.str [109,97,110,97])] σ fun t48 σ=>A.test t48 (
 A.call (.call 203) [x0,(.str [40])] σ fun t49 σ=>A.call (.call 203) [x0,(.str [109,101])] σ fun t50 σ=>A.call (.call 203) [x0,(.str [41])] σ fun t51 σ=>A.rd (Xg zq2 [(0,1)] [.int .i8 5] σ) fun t52=>
 A.wr (Zc 4 [t0,t52] σ) σ fun _ σ=>A.opt (cellV true 4 t0 σ) fun r53=>ret r53 σ) (A.call (.call 201) [x0,(.str [99,111,115,116])] σ fun t54 σ=>A.test t54 (
 A.call (.call 203) [x0,(.str [40])] σ fun t55 σ=>A.call (.call 203) [x0,(.str [116,111,112])] σ fun t56 σ=>A.call (.call 203) [x0,(.str [40])] σ fun t57 σ=>
 A.call (.call 203) [x0,(.str [109,101])] σ fun t58 σ=>A.call (.call 203) [x0,(.str [41])] σ fun t59 σ=>A.call (.call 203) [x0,(.str [41])] σ fun t60 σ=>A.rd (Xg zq2 [(0,1)] [.int .i8 6] σ) fun t61=>
 A.wr (Zc 4 [t0,t61] σ) σ fun _ σ=>A.opt (cellV true 4 t0 σ) fun r62=>ret r62 σ) (A.call (.call 201) [x0,(.str [112,111,119,101,114])] σ fun t63 σ=>
 A.test t63 (A.call (.call 203) [x0,(.str [40])] σ fun t64 σ=>A.call (.call 203) [x0,(.str [116,97,114,103,101,116])] σ fun t65 σ=>A.call (.call 203) [x0,(.str [41])] σ fun t66 σ=>
 A.rd (Xg zq2 [(0,1)] [.int .i8 7] σ) fun t67=>A.wr (Zc 4 [t0,t67] σ) σ fun _ σ=>A.opt (cellV true 4 t0 σ) fun r68=>ret r68 σ) (A.call (.call 151) [x0,(.str [109,105,110])] σ fun t69 σ=>
 A.gof t69 (Zj [x0] σ) fun t70=>A.gw t69 false (fun k=>A.call (.call 151) [t70,(.str [109,97,120])] σ k) σ fun t71 σ=>A.rd (Qc [t69,.bool true,t71] σ) fun t72=>
 A.test t72 (A.call (.call 151) [x0,(.str [109,97,120])] σ fun t73 σ=>joinK (fun k74=>A.test t73 (k74 [.int .i8 12] σ) (k74 [.int .i8 11] σ)) (fun v75 σ=>
 A.rd (Xb [x0] σ) fun t76=>A.rd (Ya 1 [t76] σ) fun t77=>A.rd (Qa [t77] σ) fun t78=>A.rd (Qb .add false [t78,jv 1] σ) fun t79=>A.rd (Xb [x0] σ) fun t80=>
 A.rd (Ya 1 [t80] σ) fun t81=>A.wr (Zc 1 [t81,t79] σ) σ fun _ σ=>A.call (.call 151) [x0,(.str [40])] σ fun t82 σ=>A.rd (Yp .not [t82] σ) fun t83=>
 joinK (fun k84=>A.test t83 (A.call (.call 152) [x0,jv 120] σ fun t86 σ=>k84 [] σ) (k84 [] σ)) (fun v85 σ=>A.call (.call 247) [x0] σ fun t87 σ=>A.call (.call 203) [x0,(.str [40])] σ fun t88 σ=>
 A.call (.call 246) [x0] σ fun t89 σ=>A.wr (Yf zq2 [] σ) σ fun t90 σ=>A.wr (Zc 4 [t90,t89] σ) σ fun _ σ=>A.call (.call 203) [x0,(.str [44])] σ fun t91 σ=>
 A.call (.call 246) [x0] σ fun t92 σ=>A.wr (Yf zq2 [] σ) σ fun t93 σ=>A.wr (Zc 4 [t93,t92] σ) σ fun _ σ=>A.call (.call 203) [x0,(.str [41])] σ fun t94 σ=>
 A.call (.call 249) [x0] σ fun t95 σ=>A.rd (Ze true 4 [t90] σ) fun t96=>A.rd (Ze true 4 [t93] σ) fun t97=>A.call (.call 261) [(h0 v75),t96,t97] σ fun t98 σ=>
 A.wr (Zc 4 [t0,t98] σ) σ fun _ σ=>A.opt (cellV true 4 t0 σ) fun r99=>ret r99 σ))) (A.call (.call 151) [x0,(.str [40])] σ fun t100 σ=>A.test t100 (A.call (.call 247) [x0] σ fun t101 σ=>
 A.call (.call 203) [x0,(.str [40])] σ fun t102 σ=>A.call (.call 246) [x0] σ fun t103 σ=>A.wr (Yf zq2 [] σ) σ fun t104 σ=>A.wr (Zc 4 [t104,t103] σ) σ fun _ σ=>
 A.call (.call 203) [x0,(.str [41])] σ fun t105 σ=>A.call (.call 249) [x0] σ fun t106 σ=>A.rd (Ze true 4 [t104] σ) fun t107=>A.wr (Zc 4 [t0,t107] σ) σ fun _ σ=>
 A.opt (cellV true 4 t0 σ) fun r108=>ret r108 σ) (A.call (.call 152) [x0,jv 120] σ fun t109 σ=>A.rd (Xg zq2 [] [] σ) fun t110=>A.wr (Zc 4 [t0,t110] σ) σ fun _ σ=>
 A.opt (cellV true 4 t0 σ) fun r111=>ret r111 σ))))))) [jv 1] σ)
 | _=>A.stop
abbrev n265:List (Option (List Nat)):=[none,none,some [5],none,none,none,none,none,none,none,none,some [7],some [],none]
theorem g265_ok:GOk prog GL0 265 1 g265:=gok1 (l:=n265) (by kernel_rfl) fun _ _ _ _ _=>by kernel_rfl
def g266:GFun:=fun A xs σ ret=>match xs with
 | [x0]=>
 A.wr (Yf [.int .i8 0,.int .i8 0,.str [],.nils,.nils] [] σ) σ fun t0 σ=>A.call (.call 151) [x0,(.str [110,111,116])] σ fun t1 σ=>A.test t1 (A.call (.call 247) [x0] σ fun t2 σ=>
 A.call (.call 203) [x0,(.str [110,111,116])] σ fun t3 σ=>A.call (.call 266) [x0] σ fun t4 σ=>A.wr (Yf [.int .i8 0,.int .i8 0,.str [],.nils,.nils] [] σ) σ fun t5 σ=>
 A.wr (Zc 5 [t5,t4] σ) σ fun _ σ=>A.call (.call 249) [x0] σ fun t6 σ=>A.rd (Ze true 5 [t5] σ) fun t7=>A.wr (Yl 5 1 [.int .i8 0,.int .i8 0,.str [],.nils,.nils] [(0,5)] [t7] σ) σ fun t8 σ=>
 A.rd (Xg [.int .i8 0,.int .i8 0,.str [],.nils,.nils] [(0,1),(4,1)] [.int .i8 3,t8] σ) fun t9=>A.wr (Zc 5 [t0,t9] σ) σ fun _ σ=>A.opt (cellV true 5 t0 σ) fun r10=>
 ret r10 σ) (A.call (.call 151) [x0,(.str [40])] σ fun t11 σ=>A.got t11 (Zj [x0] σ) fun t12=>A.gw t11 true (fun k=>A.call (.call 269) [t12] σ k) σ fun t13 σ=>
 A.rd (Qc [t11,t13,.bool false] σ) fun t14=>A.test t14 (A.call (.call 247) [x0] σ fun t15 σ=>A.call (.call 203) [x0,(.str [40])] σ fun t16 σ=>A.call (.call 248) [x0] σ fun t17 σ=>
 A.wr (Yf [.int .i8 0,.int .i8 0,.str [],.nils,.nils] [] σ) σ fun t18 σ=>A.wr (Zc 5 [t18,t17] σ) σ fun _ σ=>A.call (.call 203) [x0,(.str [41])] σ fun t19 σ=>
 A.call (.call 249) [x0] σ fun t20 σ=>A.rd (Ze true 5 [t18] σ) fun t21=>A.wr (Zc 5 [t0,t21] σ) σ fun _ σ=>A.opt (cellV true 5 t0 σ) fun r22=>ret r22 σ) (
 A.call (.call 201) [x0,(.str [104,111,108,100,115])] σ fun t23 σ=>A.test t23 (A.call (.call 203) [x0,(.str [40])] σ fun t24 σ=>A.call (.call 245) [x0,.bool false] σ fun t25 σ=>
 A.rd (Xg [.int .i8 0,.int .i8 0,.str [],.nils,.nils] [(0,1),(1,1)] [.int .i8 6,t25] σ) fun t26=>A.wr (Yf [.int .i8 0,.int .i8 0,.str [],.nils,.nils] [] σ) σ fun t27 σ=>
 A.wr (Zc 5 [t27,t26] σ) σ fun _ σ=>A.call (.call 203) [x0,(.str [44])] σ fun t28 σ=>A.call (.call 200) [x0] σ fun t29 σ=>A.rd (Ya 2 [t27] σ) fun t30=>
 A.wr (Zc 1 [t30,t29] σ) σ fun _ σ=>A.call (.call 203) [x0,(.str [41])] σ fun t31 σ=>A.rd (Ze true 5 [t27] σ) fun t32=>A.wr (Zc 5 [t0,t32] σ) σ fun _ σ=>
 A.opt (cellV true 5 t0 σ) fun r33=>ret r33 σ) (A.call (.call 246) [x0] σ fun t34 σ=>A.wr (Yf zq2 [] σ) σ fun t35 σ=>A.wr (Zc 4 [t35,t34] σ) σ fun _ σ=>
 joinK (fun k36=>A.call (.call 201) [x0,(.str [60])] σ fun t38 σ=>A.test t38 (k36 [.int .i8 0] σ) (A.call (.call 201) [x0,(.str [60,61])] σ fun t39 σ=>A.test t39 (
 k36 [.int .i8 1] σ) (A.call (.call 201) [x0,(.str [61,61])] σ fun t40 σ=>A.test t40 (k36 [.int .i8 2] σ) (A.call (.call 152) [x0,jv 120] σ fun t41 σ=>
 k36 [.int .i8 0] σ)))) (fun v37 σ=>A.call (.call 246) [x0] σ fun t42 σ=>A.wr (Yf zq2 [] σ) σ fun t43 σ=>A.wr (Zc 4 [t43,t42] σ) σ fun _ σ=>A.rd (Ze true 4 [t35] σ) fun t44=>
 A.rd (Ze true 4 [t43] σ) fun t45=>A.wr (Yl 4 2 [.int .i8 0,jv 0,.int .i8 0,.nils,.int .i8 0,jv 0,.int .i8 0,.nils] [(0,4),(4,4)] [t44,t45] σ) σ fun t46 σ=>
 A.rd (Xg [.int .i8 0,.int .i8 0,.str [],.nils,.nils] [(0,1),(3,1)] [(h0 v37),t46] σ) fun t47=>A.wr (Zc 5 [t0,t47] σ) σ fun _ σ=>A.opt (cellV true 5 t0 σ) fun r48=>
 ret r48 σ))))
 | _=>A.stop
abbrev n266:List (Option (List Nat)):=[none,none,none,none,some [7],none,none,none]
theorem g266_ok:GOk prog GL0 266 1 g266:=gok1 (l:=n266) (by kernel_rfl) fun _ _ _ _ _=>by kernel_rfl
end Go.Ah.Tz
end
section
namespace Go.Ah.Tz
open Go.Proofs.Tryz (prog)
set_option maxRecDepth 100000
def g269:GFun:=fun A xs σ ret=>match xs with
 | [x0]=>
 A.rd (Xb [x0] σ) fun t0=>A.rd (Ya 1 [t0] σ) fun t1=>A.rd (Qa [t1] σ) fun t2=>A.loop (fun ag3 v4 σ=>A.rd (Xb [x0] σ) fun t5=>A.rd (Ya 0 [t5] σ) fun t6=>
 A.rd (Qa [t6] σ) fun t7=>A.rd (Qg [t7] σ) fun t8=>A.rd (Qb .lss false [(h0 v4),t8] σ) fun t9=>A.test t9 (joinK (fun k10=>A.rd (Xb [x0] σ) fun t12=>
 A.rd (Ya 0 [t12] σ) fun t13=>A.rd (Qa [t13] σ) fun t14=>A.rd (Xd 4 [t14,(h0 v4)] σ) fun t15=>A.rd (Ze true 4 [t15] σ) fun t16=>A.wr (Yf [.int .i8 0,.str [],jv 0,jv 0] [] σ) σ fun t17 σ=>
 A.wr (Zc 4 [t17,t16] σ) σ fun _ σ=>A.rd (Ya 0 [t17] σ) fun t18=>A.rd (Qa [t18] σ) fun t19=>A.rd (Qb .neq false [t19,.int .i8 3] σ) fun t20=>
 A.test t20 (k10 [(h1 v4)] σ) (A.rd (Ya 1 [t17] σ) fun t21=>A.rd (Qa [t21] σ) fun t22=>A.rd (Qb .eql false [t22,(.str [40])] σ) fun t23=>joinK (fun k24=>
 A.test t23 (A.rd (Qb .add false [(h1 v4),jv 1] σ) fun t26=>k24 [t26] σ) (k24 [(h1 v4)] σ)) (fun v25 σ=>A.rd (Ya 1 [t17] σ) fun t27=>A.rd (Qa [t27] σ) fun t28=>
 A.rd (Qb .eql false [t28,(.str [41])] σ) fun t29=>joinK (fun k30=>A.test t29 (A.rd (Qb .sub false [(h0 v25),jv 1] σ) fun t32=>k30 [t32] σ) (k30 [(h0 v25)] σ)) (fun v31 σ=>
 A.rd (Qb .eql false [(h0 v31),jv 0] σ) fun t33=>A.test t33 (A.rd (Xb [x0] σ) fun t34=>A.rd (Ya 0 [t34] σ) fun t35=>A.rd (Qa [t35] σ) fun t36=>
 A.rd (Qb .add false [(h0 v4),jv 1] σ) fun t37=>A.rd (Xd 4 [t36,t37] σ) fun t38=>A.rd (Ze true 4 [t38] σ) fun t39=>A.wr (Yf [.int .i8 0,.str [],jv 0,jv 0] [] σ) σ fun t40 σ=>
 A.wr (Zc 4 [t40,t39] σ) σ fun _ σ=>A.rd (Ya 0 [t40] σ) fun t41=>A.rd (Qa [t41] σ) fun t42=>A.rd (Qb .neq false [t42,.int .i8 3] σ) fun t43=>
 A.test t43 (ret (.bool true) σ) (A.rd (Ya 1 [t40] σ) fun t44=>A.rd (Qa [t44] σ) fun t45=>A.rd (Qb .eql false [t45,(.str [60])] σ) fun t46=>
 joinK (fun k47=>A.test t46 (k47 [t46] σ) (A.rd (Qb .eql false [t45,(.str [60,61])] σ) fun t49=>A.test t49 (k47 [t49] σ) (A.rd (Qb .eql false [t45,(.str [61,61])] σ) fun t50=>
 A.test t50 (k47 [t50] σ) (A.rd (Qb .eql false [t45,(.str [43])] σ) fun t51=>A.test t51 (k47 [t51] σ) (A.rd (Qb .eql false [t45,(.str [45])] σ) fun t52=>
 A.test t52 (k47 [t52] σ) (A.rd (Qb .eql false [t45,(.str [42])] σ) fun t53=>k47 [t53] σ)))))) (fun v48 σ=>A.test (h0 v48) (ret (.bool false) σ) (ret (.bool true) σ)))) (
 k10 [(h0 v31)] σ))))) (fun v11 σ=>A.rd (Qb .add false [(h0 v4),jv 1] σ) fun t54=>ag3 [t54,(h0 v11)] σ)) (ret (.bool true) σ)) [t2,jv 0] σ
 | _=>A.stop
abbrev n269:List (Option (List Nat)):=[none,some [4,3],none,some [3],none,some [3],some [3],none,none,none,some [55],none,none,none,none,none]
theorem g269_ok:GOk prog GL0 269 1 g269:=gok1 (l:=n269) (by kernel_rfl) fun _ _ _ _ _=>by kernel_rfl
end Go.Ah.Tz
end
