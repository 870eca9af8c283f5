/- A part of the proof: the ideal machine, and what the functions of the program answer over it. -/
import Derived.Test.YtanaepeilcjhcaaRows
import Derived.Shelf.SlSortCmp.NoneTotal
import Derived.Test.YtanaepeilcjhcaaProg
import Derived.Test.YtanaepeilcjhcaaD
set_option linter.unusedSimpArgs false
set_option linter.unusedVariables false
set_option linter.unusedSectionVars false
noncomputable section
namespace Go.Ideal.J
open Go Go.Ideal
set_option maxRecDepth 100000
theorem s_s_0 (X : Rn) (h : H) : sh X c_s_0 (K_s_0 X) (setL [] []) h =
 k2 (X.call (.func (.func n_D) #[] #[]) [] h) fun t86 h1 =>
 k2 (some (t86, h1)) fun t2 h2 =>
 some (.val (ze [t2]) h2) := by kernel_rfl
theorem s_s_1 (X : Rn) (t8 t10 : Value) (h : H) : sh X c_s_1 (K_s_1 X) (setL [p8, p10] [t8, t10]) h =
 k2 (some (t10, h)) fun t74 h1 =>
 k2 (some (t8, h1)) fun t75 h2 =>
 k2 (bltV h2 .len [t75]) fun t76 h3 =>
 k2 (vBin .lss .other t74 t76 h3) fun t77 h4 =>
 br t77
 (k2 (some (t8, h4)) fun t80 h5 =>
 k2 (some (t10, h5)) fun t81 h6 =>
 k2 (zt 1 t80 t81 h6) fun t82 h7 =>
 k2 (zc t82 h7) fun t83 h8 =>
 k2 (some (t10, h8)) fun t84 h9 =>
 k2 (vBin .neq .other t83 t84 h9) fun t85 h10 =>
 br t85
 (k2 (some ((.bool false), h10)) fun t2 h11 =>
 some (.val (ze [t2]) h11))
 (k2 (some (t10, h10)) fun t78 h12 =>
 k2 (vBin .add .other t78 (.int .i64 1) h12) fun t79 h13 =>
 k2 (some (t79, h13)) fun t10_14 h15 =>
 lp X [p8, p10] c_s_1 (kBlk 0 (kSeq X c_s_0 [] (K_s_0 X))) [t8, t10_14] h15))
 (sh X c_s_0 (K_s_0 X) (setL [] []) h4) := by kernel_rfl
theorem l_s_1 (F : FuncId → Option zr) (t8 t10 : Value) (h : H) {r : Out} : let X := rI F; sh X c_s_1 (K_s_1 X) (setL [p8, p10] [t8, t10]) h = some r → lp X [p8, p10] c_s_1 (kBlk 0 (kSeq X c_s_0 [] (K_s_0 X))) [t8, t10] h = some r := fun hv => zbe (by decide) hv
theorem s_s (X : Rn) (t0 : Value) (h : H) : zn X 1 f_s [t0] h =
 k2 (some (zi h (zj t0))) fun t1 h1 =>
 k2 (some ((.bool false), h1)) fun t2 h2 =>
 k2 (zh 3 t1 h2) fun t12 h3 =>
 k2 (X.call (.func (.func n_h) #[] #[]) [t12] h3) fun t13 h4 =>
 k2 (some (t13, h4)) fun t11 h5 =>
 k2 (zm 0 t11 h5) fun t14 h6 =>
 k2 (zm 1 t11 h6) fun t15 h7 =>
 k2 (some (zi h7 [(.int .i64 0), (.int .i64 0), (.slice none 0 0)])) fun t3 h8 =>
 k2 (zq 3 t3 t14 h8) fun _ h9 =>
 k2 (some (t15, h9)) fun t4 h10 =>
 k2 (some (t4, h10)) fun t16 h11 =>
 k2 (vBin .neq .other t16 (.int .i64 0) h11) fun t17 h12 =>
 br t17
 (k2 (zh 3 t3 h12) fun t18 h13 =>
 k2 ((zp [(.int .i64 0), (.int .i64 0), (.slice none 0 0)] []).map fun c => (Value.agg ⟨c⟩, h13)) fun t19 h14 =>
 k2 (X.call (.func (.func n_g) #[] #[]) [t18, t19] h14) fun t20 h15 =>
 k2 (some (t20, h15)) fun t21 h16 =>
 k2 (gd t21 true h16 (X.call (.func (.func n_D) #[] #[]) [] h16)) fun t22 h17 =>
 k2 (zG t21 t22 (.bool false) h17) fun t23 h18 =>
 k2 (some (t23, h18)) fun t2 h19 =>
 some (.val (ze [t2]) h19))
 (k2 (zh 3 t1 h12) fun t25 h20 =>
 k2 (zh 3 t3 h20) fun t26 h21 =>
 k2 (X.call (.func (.func n_J) #[] #[]) [t25, t26] h21) fun t27 h22 =>
 k2 (some (t27, h22)) fun t24 h23 =>
 k2 (zm 0 t24 h23) fun t28 h24 =>
 k2 (zm 1 t24 h24) fun t29 h25 =>
 k2 (some (t28, h25)) fun t5 h26 =>
 k2 (some (t29, h26)) fun t4 h27 =>
 k2 (zh 3 t3 h27) fun t31 h28 =>
 k2 (X.call (.func (.func n_h) #[] #[]) [t31] h28) fun t32 h29 =>
 k2 (some (t32, h29)) fun t30 h30 =>
 k2 (zm 0 t30 h30) fun t33 h31 =>
 k2 (zm 1 t30 h31) fun t34 h32 =>
 k2 (some (zi h32 [(.int .i64 0), (.int .i64 0), (.slice none 0 0)])) fun t6 h33 =>
 k2 (zq 3 t6 t33 h33) fun _ h34 =>
 k2 (some (t34, h34)) fun t7 h35 =>
 k2 (zh 3 t3 h35) fun t36 h36 =>
 k2 (X.call (.func (.func n_H) #[] #[]) [t36] h36) fun t37 h37 =>
 k2 (some (t37, h37)) fun t35 h38 =>
 k2 (zm 0 t35 h38) fun t38 h39 =>
 k2 (zm 1 t35 h39) fun t39 h40 =>
 k2 (some (t38, h40)) fun t8 h41 =>
 k2 (some (t39, h41)) fun t9 h42 =>
 k2 (some (t5, h42)) fun t40 h43 =>
 k2 (vUn .not t40 h43) fun t41 h44 =>
 k2 (some (t41, h44)) fun t42 h45 =>
 k2 (gd t42 false h45 (some (t4, h45))) fun t43 h46 =>
 k2 (gd t42 false h46 (vBin .neq .other t43 (.int .i64 0) h46)) fun t44 h47 =>
 k2 (zG t42 (.bool true) t44 h47) fun t45 h48 =>
 k2 (some (t45, h48)) fun t46 h49 =>
 k2 (gd t46 false h49 (some (t7, h49))) fun t47 h50 =>
 k2 (gd t46 false h50 (vBin .neq .other t47 (.int .i64 0) h50)) fun t48 h51 =>
 k2 (zG t46 (.bool true) t48 h51) fun t49 h52 =>
 k2 (some (t49, h52)) fun t50 h53 =>
 k2 (gd t50 false h53 (some (t9, h53))) fun t51 h54 =>
 k2 (gd t50 false h54 (vBin .neq .other t51 (.int .i64 0) h54)) fun t52 h55 =>
 k2 (zG t50 (.bool true) t52 h55) fun t53 h56 =>
 k2 (some (t53, h56)) fun t54 h57 =>
 k2 (gd t54 false h57 (zh 3 t3 h57)) fun t55 h58 =>
 k2 (gd t54 false h58 (zh 3 t6 h58)) fun t56 h59 =>
 k2 (gd t54 false h59 (X.call (.func (.func n_g) #[] #[]) [t55, t56] h59)) fun t57 h60 =>
 k2 (gd t54 false h60 (vUn .not t57 h60)) fun t58 h61 =>
 k2 (zG t54 (.bool true) t58 h61) fun t59 h62 =>
 k2 (some (t59, h62)) fun t60 h63 =>
 k2 (gd t60 false h63 (zg 0 t3 h63)) fun t61 h64 =>
 k2 (gd t60 false h64 (zc t61 h64)) fun t62 h65 =>
 k2 (gd t60 false h65 (zg 0 t1 h65)) fun t63 h66 =>
 k2 (gd t60 false h66 (zc t63 h66)) fun t64 h67 =>
 k2 (gd t60 false h67 (vBin .gtr .other t62 t64 h67)) fun t65 h68 =>
 k2 (zG t60 (.bool true) t65 h68) fun t66 h69 =>
 k2 (some (t66, h69)) fun t67 h70 =>
 k2 (gd t67 false h70 (some (t8, h70))) fun t68 h71 =>
 k2 (gd t67 false h71 (bltV h71 .len [t68])) fun t69 h72 =>
 k2 (gd t67 false h72 (zg 0 t3 h72)) fun t70 h73 =>
 k2 (gd t67 false h73 (zc t70 h73)) fun t71 h74 =>
 k2 (gd t67 false h74 (vBin .neq .other t69 t71 h74)) fun t72 h75 =>
 k2 (zG t67 (.bool true) t72 h75) fun t73 h76 =>
 br t73
 (k2 (some ((.bool false), h76)) fun t2 h77 =>
 some (.val (ze [t2]) h77))
 (k2 (some ((.int .i64 0), h76)) fun t10 h78 =>
 lp X [p8, p10] c_s_1 (kBlk 0 (kSeq X c_s_0 [] (K_s_0 X))) [t8, t10] h78)) := by kernel_rfl
theorem s_n_0 (X : Rn) (h : H) : sh X zgs (K_n_0 X) (setL [] []) h =
 k2 (some ((.int .i64 0), h)) fun t2 h1 =>
 some (.val (ze [t2]) h1) := by kernel_rfl
theorem s_n_1 (X : Rn) (t1 t30 t31 t32 : Value) (h : H) : sh X zfX (K_n_1 X) (setL [p1, p30, p31, p32] [t1, t30, t31, t32]) h =
 k2 (vBin .lss .other t32 t31 h) fun t33 h1 =>
 br t33
 (k2 (some (t32, h1)) fun t34 h2 =>
 k2 (zt 3 t30 t32 h2) fun t35 h3 =>
 k2 (zh 3 t35 h3) fun t36 h4 =>
 k2 (some (zi h4 [(.int .i64 0), (.int .i64 0), (.int .i64 0)])) fun t4 h5 =>
 k2 (some (t34, h5)) fun t3 h6 =>
 k2 (zq 3 t4 t36 h6) fun _ h7 =>
 k2 (zg 0 t4 h7) fun t37 h8 =>
 k2 (rdF (fun b => zc t37 b) 0 h8 [(0, h7)]) fun t38 h9 =>
 k2 (zg 1 t4 h9) fun t39 h10 =>
 k2 (rdF (fun b => zc t39 b) 0 h10 [(0, h7)]) fun t40 h11 =>
 k2 (zg 2 t4 h11) fun t41 h12 =>
 k2 (rdF (fun b => zc t41 b) 0 h12 [(0, h7)]) fun t42 h13 =>
 k2 (bltV h13 .min [t38, t40, t42]) fun t43 h14 =>
 k2 (vBin .lss .other t43 (.int .i64 0) h14) fun t44 h15 =>
 k2 (some (t44, h15)) fun t45 h16 =>
 k2 (gd t45 false h16 (zg 0 t4 h16)) fun t46 h17 =>
 k2 (gd t45 false h17 (rdF (fun b => zc t46 b) 0 h17 [(0, h7)])) fun t47 h18 =>
 k2 (gd t45 false h18 (zg 1 t4 h18)) fun t48 h19 =>
 k2 (gd t45 false h19 (rdF (fun b => zc t48 b) 0 h19 [(0, h7)])) fun t49 h20 =>
 k2 (gd t45 false h20 (bltV h20 .max [t47, t49])) fun t50 h21 =>
 k2 (gd t45 false h21 (zg 0 t1 h21)) fun t51 h22 =>
 k2 (gd t45 false h22 (rdF (fun b => zc t51 b) 0 h22 [(0, h7)])) fun t52 h23 =>
 k2 (gd t45 false h23 (vBin .geq .other t50 t52 h23)) fun t53 h24 =>
 k2 (zG t45 (.bool true) t53 h24) fun t54 h25 =>
 k2 (some (t54, h25)) fun t55 h26 =>
 k2 (gd t55 false h26 (zg 2 t4 h26)) fun t56 h27 =>
 k2 (gd t55 false h27 (rdF (fun b => zc t56 b) 0 h27 [(0, h7)])) fun t57 h28 =>
 k2 (gd t55 false h28 (zg 1 t1 h28)) fun t58 h29 =>
 k2 (gd t55 false h29 (rdF (fun b => zc t58 b) 0 h29 [(0, h7)])) fun t59 h30 =>
 k2 (gd t55 false h30 (vBin .geq .other t57 t59 h30)) fun t60 h31 =>
 k2 (zG t55 (.bool true) t60 h31) fun t61 h32 =>
 k2 (some (t61, h32)) fun t62 h33 =>
 k2 (gd t62 false h33 (some (t3, h33))) fun t63 h34 =>
 k2 (gd t62 false h34 (vBin .gtr .other t63 (.int .i64 0) h34)) fun t64 h35 =>
 k2 (gd t62 false h35 (some (t64, h35))) fun t65 h36 =>
 k2 (gd t65 true h36 (zg 2 t1 h36)) fun t66 h37 =>
 k2 (gd t65 true h37 (rdF (fun b => zc t66 b) 0 h37 [(0, h7)])) fun t67 h38 =>
 k2 (gd t65 true h38 (some (t3, h38))) fun t68 h39 =>
 k2 (gd t65 true h39 (vBin .sub .other t68 (.int .i64 1) h39)) fun t69 h40 =>
 k2 (gd t65 true h40 (zt 3 t67 t69 h40)) fun t70 h41 =>
 k2 (gd t65 true h41 (rdF (fun b => zh 3 t70 b) 0 h41 [(0, h7)])) fun t71 h42 =>
 k2 (gd t65 true h42 (rdF (fun b => zh 3 t4 b) 0 h42 [(0, h7)])) fun t72 h43 =>
 k2 (gd t65 true h43 (X.call (.func (.func n_G) #[] #[]) [t71, t72] h43)) fun t73 h44 =>
 k2 (gd t65 true h44 (vBin .geq .other t73 (.int .i64 0) h44)) fun t74 h45 =>
 k2 (gd t62 false h45 (zG t65 t74 (.bool false) h45)) fun t75 h46 =>
 k2 (zG t62 (.bool true) t75 h46) fun t76 h47 =>
 br t76
 (k2 (some ((.int .i64 2), h47)) fun t2 h48 =>
 some (.val (ze [t2]) h48))
 (k2 (vBin .add .other t32 (.int .i64 1) h47) fun t77 h49 =>
 k2 (some (t77, h49)) fun t32_50 h51 =>
 lp X [p1, p30, p31, p32] zfX (kBlk 0 (kSeq X zgs [] (K_n_0 X))) [t1, t30, t31, t32_50] h51))
 (sh X zgs (K_n_0 X) (setL [] []) h1) := by kernel_rfl
theorem l_n_1 (F : FuncId → Option zr) (t1 t30 t31 t32 : Value) (h : H) {r : Out} : let X := rI F; sh X zfX (K_n_1 X) (setL [p1, p30, p31, p32] [t1, t30, t31, t32]) h = some r → lp X [p1, p30, p31, p32] zfX (kBlk 0 (kSeq X zgs [] (K_n_0 X))) [t1, t30, t31, t32] h = some r := fun hv => zbe (by decide) hv
theorem s_n (X : Rn) (t0 : Value) (h : H) : zn X 1 f_n [t0] h =
 k2 (some (zi h (zj t0))) fun t1 h1 =>
 k2 (some ((.int .i64 0), h1)) fun t2 h2 =>
 k2 (zg 0 t1 h2) fun t5 h3 =>
 k2 (zc t5 h3) fun t6 h4 =>
 k2 (vBin .lss .other t6 (.int .i64 1) h4) fun t7 h5 =>
 k2 (some (t7, h5)) fun t8 h6 =>
 k2 (gd t8 false h6 (zg 0 t1 h6)) fun t9 h7 =>
 k2 (gd t8 false h7 (zc t9 h7)) fun t10 h8 =>
 k2 (gd t8 false h8 (vBin .gtr .other t10 (.int .i64 60) h8)) fun t11 h9 =>
 k2 (zG t8 (.bool true) t11 h9) fun t12 h10 =>
 k2 (some (t12, h10)) fun t13 h11 =>
 k2 (gd t13 false h11 (zg 1 t1 h11)) fun t14 h12 =>
 k2 (gd t13 false h12 (zc t14 h12)) fun t15 h13 =>
 k2 (gd t13 false h13 (vBin .lss .other t15 (.int .i64 1) h13)) fun t16 h14 =>
 k2 (zG t13 (.bool true) t16 h14) fun t17 h15 =>
 k2 (some (t17, h15)) fun t18 h16 =>
 k2 (gd t18 false h16 (zg 1 t1 h16)) fun t19 h17 =>
 k2 (gd t18 false h17 (zc t19 h17)) fun t20 h18 =>
 k2 (gd t18 false h18 (vBin .gtr .other t20 (.int .i64 41) h18)) fun t21 h19 =>
 k2 (zG t18 (.bool true) t21 h19) fun t22 h20 =>
 k2 (some (t22, h20)) fun t23 h21 =>
 k2 (gd t23 false h21 (zg 2 t1 h21)) fun t24 h22 =>
 k2 (gd t23 false h22 (zc t24 h22)) fun t25 h23 =>
 k2 (gd t23 false h23 (bltV h23 .len [t25])) fun t26 h24 =>
 k2 (gd t23 false h24 (vBin .gtr .other t26 (.int .i64 400) h24)) fun t27 h25 =>
 k2 (zG t23 (.bool true) t27 h25) fun t28 h26 =>
 br t28
 (k2 (some ((.int .i64 2), h26)) fun t2 h27 =>
 some (.val (ze [t2]) h27))
 (k2 (zg 2 t1 h26) fun t29 h28 =>
 k2 (zc t29 h28) fun t30 h29 =>
 k2 (bltV h29 .len [t30]) fun t31 h30 =>
 k2 (some ((.int .i64 0), h30)) fun t32 h31 =>
 lp X [p1, p30, p31, p32] zfX (kBlk 0 (kSeq X zgs [] (K_n_0 X))) [t1, t30, t31, t32] h31) := by kernel_rfl
theorem s_g_0 (X : Rn) (h : H) : sh X zg5 (K_g_0 X) (setL [] []) h =
 k2 (some ((.bool true), h)) fun t4 h1 =>
 some (.val (ze [t4]) h1) := by kernel_rfl
theorem s_g_1 (X : Rn) (t2 t3 t5 : Value) (h : H) : sh X zg4 (K_g_1 X) (setL [p2, p3, p5] [t2, t3, t5]) h =
 k2 (some (t5, h)) fun t27 h1 =>
 k2 (zg 2 t2 h1) fun t28 h2 =>
 k2 (zc t28 h2) fun t29 h3 =>
 k2 (bltV h3 .len [t29]) fun t30 h4 =>
 k2 (vBin .lss .other t27 t30 h4) fun t31 h5 =>
 br t31
 (k2 (zg 2 t2 h5) fun t34 h6 =>
 k2 (rdF (fun b => zc t34 b) 0 h6 [(0, h5)]) fun t35 h7 =>
 k2 (some (t5, h7)) fun t36 h8 =>
 k2 (zt 3 t35 t36 h8) fun t37 h9 =>
 k2 (rdF (fun b => zh 3 t37 b) 0 h9 [(0, h5)]) fun t38 h10 =>
 k2 (zg 2 t3 h10) fun t39 h11 =>
 k2 (rdF (fun b => zc t39 b) 0 h11 [(0, h5)]) fun t40 h12 =>
 k2 (some (t5, h12)) fun t41 h13 =>
 k2 (zt 3 t40 t41 h13) fun t42 h14 =>
 k2 (rdF (fun b => zh 3 t42 b) 0 h14 [(0, h5)]) fun t43 h15 =>
 k2 (vBin .neq (.leaves [0, 1, 2]) t38 t43 h15) fun t44 h16 =>
 br t44
 (k2 (some ((.bool false), h16)) fun t4 h17 =>
 some (.val (ze [t4]) h17))
 (k2 (some (t5, h16)) fun t32 h18 =>
 k2 (vBin .add .other t32 (.int .i64 1) h18) fun t33 h19 =>
 k2 (some (t33, h19)) fun t5_20 h21 =>
 lp X [p2, p3, p5] zg4 (kBlk 0 (kSeq X zg5 [] (K_g_0 X))) [t2, t3, t5_20] h21))
 (sh X zg5 (K_g_0 X) (setL [] []) h5) := by kernel_rfl
theorem l_g_1 (F : FuncId → Option zr) (t2 t3 t5 : Value) (h : H) {r : Out} : let X := rI F; sh X zg4 (K_g_1 X) (setL [p2, p3, p5] [t2, t3, t5]) h = some r → lp X [p2, p3, p5] zg4 (kBlk 0 (kSeq X zg5 [] (K_g_0 X))) [t2, t3, t5] h = some r := fun hv => zbe (by decide) hv
theorem s_g (X : Rn) (t0 t1 : Value) (h : H) : zn X 2 f_g [t0, t1] h =
 k2 (some (zi h (zj t0))) fun t2 h1 =>
 k2 (some (zi h1 (zj t1))) fun t3 h2 =>
 k2 (some ((.bool false), h2)) fun t4 h3 =>
 k2 (zg 0 t2 h3) fun t6 h4 =>
 k2 (zc t6 h4) fun t7 h5 =>
 k2 (zg 0 t3 h5) fun t8 h6 =>
 k2 (zc t8 h6) fun t9 h7 =>
 k2 (vBin .neq .other t7 t9 h7) fun t10 h8 =>
 k2 (some (t10, h8)) fun t11 h9 =>
 k2 (gd t11 false h9 (zg 1 t2 h9)) fun t12 h10 =>
 k2 (gd t11 false h10 (zc t12 h10)) fun t13 h11 =>
 k2 (gd t11 false h11 (zg 1 t3 h11)) fun t14 h12 =>
 k2 (gd t11 false h12 (zc t14 h12)) fun t15 h13 =>
 k2 (gd t11 false h13 (vBin .neq .other t13 t15 h13)) fun t16 h14 =>
 k2 (zG t11 (.bool true) t16 h14) fun t17 h15 =>
 k2 (some (t17, h15)) fun t18 h16 =>
 k2 (gd t18 false h16 (zg 2 t2 h16)) fun t19 h17 =>
 k2 (gd t18 false h17 (zc t19 h17)) fun t20 h18 =>
 k2 (gd t18 false h18 (bltV h18 .len [t20])) fun t21 h19 =>
 k2 (gd t18 false h19 (zg 2 t3 h19)) fun t22 h20 =>
 k2 (gd t18 false h20 (zc t22 h20)) fun t23 h21 =>
 k2 (gd t18 false h21 (bltV h21 .len [t23])) fun t24 h22 =>
 k2 (gd t18 false h22 (vBin .neq .other t21 t24 h22)) fun t25 h23 =>
 k2 (zG t18 (.bool true) t25 h23) fun t26 h24 =>
 br t26
 (k2 (some ((.bool false), h24)) fun t4 h25 =>
 some (.val (ze [t4]) h25))
 (k2 (some ((.int .i64 0), h24)) fun t5 h26 =>
 lp X [p2, p3, p5] zg4 (kBlk 0 (kSeq X zg5 [] (K_g_0 X))) [t2, t3, t5] h26) := by kernel_rfl
theorem s_J (X : Rn) (t0 t1 : Value) (h : H) : zn X 2 f_J [t0, t1] h =
 k2 (some (zi h (zj t0))) fun t2 h1 =>
 k2 (some (zi h1 (zj t1))) fun t3 h2 =>
 k2 (some ((.bool false), h2)) fun t4 h3 =>
 k2 (some ((.int .i64 0), h3)) fun t5 h4 =>
 k2 (zh 3 t2 h4) fun t6 h5 =>
 k2 (zh 3 t3 h5) fun t7 h6 =>
 k2 (X.call (.func (.func n_K) #[] #[]) [t6, t7] h6) fun t8 h7 =>
 k2 (vUn .not t8 h7) fun t9 h8 =>
 br t9
 (k2 (some ((.bool false), h8)) fun t4 h9 =>
 k2 (some ((.int .i64 2), h9)) fun t5 h10 =>
 some (.val (ze [t4, t5]) h10))
 (k2 (zh 3 t2 h8) fun t10 h11 =>
 k2 (zh 3 t3 h11) fun t11 h12 =>
 k2 (X.call (.func (.func n_w) #[] #[]) [t10, t11] h12) fun t12 h13 =>
 k2 (some (t12, h13)) fun t4 h14 =>
 k2 (some ((.int .i64 0), h14)) fun t5 h15 =>
 some (.val (ze [t4, t5]) h15)) := by kernel_rfl
theorem s_H (X : Rn) (t0 : Value) (h : H) : zn X 1 f_H [t0] h =
 k2 (some (zi h (zj t0))) fun t1 h1 =>
 k2 (some ((.slice none 0 0), h1)) fun t2 h2 =>
 k2 (some ((.int .i64 0), h2)) fun t3 h3 =>
 k2 (zh 3 t1 h3) fun t4 h4 =>
 k2 (X.call (.func (.func n_n) #[] #[]) [t4] h4) fun t5 h5 =>
 k2 (vBin .neq .other t5 (.int .i64 0) h5) fun t6 h6 =>
 br t6
 (k2 (some ((.slice none 0 0), h6)) fun t2 h7 =>
 k2 (some ((.int .i64 2), h7)) fun t3 h8 =>
 some (.val (ze [t2, t3]) h8))
 (k2 (zh 3 t1 h6) fun t7 h9 =>
 k2 (X.call (.func (.func n_e) #[] #[]) [t7] h9) fun t8 h10 =>
 k2 (some (t8, h10)) fun t2 h11 =>
 k2 (some ((.int .i64 0), h11)) fun t3 h12 =>
 some (.val (ze [t2, t3]) h12)) := by kernel_rfl
theorem s_h_7 (X : Rn) (t2 t11 : Value) (h : H) : sh X c_h_7 (K_h_7 X) (setL [p2, p11] [t2, t11]) h =
 k2 (zg 2 t11 h) fun t111 h1 =>
 k2 (zc t111 h1) fun t112 h2 =>
 k2 (X.call (.func (.func n_I) #[] #[]) [t112, (.func (.func n_G) #[] #[])] h2) fun t113 h3 =>
 k2 (zg 2 t11 h3) fun t114 h4 =>
 k2 (zq 1 t114 t113 h4) fun _ h5 =>
 k2 (zh 3 t11 h5) fun t115 h6 =>
 k2 (zq 3 t2 t115 h6) fun _ h7 =>
 k2 (some ((.int .i64 0), h7)) fun t3 h8 =>
 (vRes (some 3) t2 h8).bind fun r0 => some (.val (ze [r0, t3]) h8) := by kernel_rfl
theorem s_h_9 (X : Rn) (t2 t4 t8 t11 t70 t71 t72 : Value) (h : H) : sh X c_h_9 (K_h_9 X) (setL [p2, p4, p8, p11, p70, p71, p72] [t2, t4, t8, t11, t70, t71, t72]) h =
 k2 (vBin .add .other t72 (.int .i64 1) h) fun t110 h1 =>
 k2 (some (t110, h1)) fun t72_2 h3 =>
 lp X [p2, p4, p8, p11, p70, p71, p72] c_h_8 (kBlk 6 (kSeq X c_h_7 [p2, p11] (K_h_7 X))) [t2, t4, t8, t11, t70, t71, t72_2] h3 := by kernel_rfl
theorem s_h_8 (X : Rn) (t2 t4 t8 t11 t70 t71 t72 : Value) (h : H) : sh X c_h_8 (K_h_8 X) (setL [p2, p4, p8, p11, p70, p71, p72] [t2, t4, t8, t11, t70, t71, t72]) h =
 k2 (vBin .lss .other t72 t71 h) fun t73 h1 =>
 br t73
 (k2 (zt 3 t70 t72 h1) fun t74 h2 =>
 k2 (zh 3 t74 h2) fun t75 h3 =>
 k2 (some (zi h3 [(.int .i64 0), (.int .i64 0), (.int .i64 0)])) fun t13 h4 =>
 k2 (zq 3 t13 t75 h4) fun _ h5 =>
 k2 (some (t8, h5)) fun t77 h6 =>
 k2 (some (t4, h6)) fun t78 h7 =>
 k2 (zg 0 t13 h7) fun t79 h8 =>
 k2 (zc t79 h8) fun t80 h9 =>
 k2 (zt 1 t78 t80 h9) fun t81 h10 =>
 k2 (zc t81 h10) fun t82 h11 =>
 k2 (X.call (.func (.func n_l) #[] #[]) [t77, t82] h11) fun t83 h12 =>
 k2 (some (t83, h12)) fun t76 h13 =>
 k2 (zm 0 t76 h13) fun t84 h14 =>
 k2 (zm 1 t76 h14) fun t85 h15 =>
 k2 (some (t84, h15)) fun t14 h16 =>
 k2 (some (t85, h16)) fun t15 h17 =>
 k2 (some (t8, h17)) fun t87 h18 =>
 k2 (some (t4, h18)) fun t88 h19 =>
 k2 (zg 1 t13 h19) fun t89 h20 =>
 k2 (zc t89 h20) fun t90 h21 =>
 k2 (zt 1 t88 t90 h21) fun t91 h22 =>
 k2 (zc t91 h22) fun t92 h23 =>
 k2 (X.call (.func (.func n_l) #[] #[]) [t87, t92] h23) fun t93 h24 =>
 k2 (some (t93, h24)) fun t86 h25 =>
 k2 (zm 0 t86 h25) fun t94 h26 =>
 k2 (zm 1 t86 h26) fun t95 h27 =>
 k2 (some (t94, h27)) fun t16 h28 =>
 k2 (some (t95, h28)) fun t17 h29 =>
 k2 (some (t15, h29)) fun t96 h30 =>
 k2 (some (t96, h30)) fun t97 h31 =>
 k2 (gd t97 true h31 (some (t17, h31))) fun t98 h32 =>
 k2 (zG t97 t98 (.bool false) h32) fun t99 h33 =>
 br t99
 (k2 (zg 2 t11 h33) fun t100 h34 =>
 k2 (zc t100 h34) fun t101 h35 =>
 k2 (some (t14, h35)) fun t102 h36 =>
 k2 (some (t16, h36)) fun t103 h37 =>
 k2 (zg 2 t13 h37) fun t104 h38 =>
 k2 (zc t104 h38) fun t105 h39 =>
 k2 ((zp [(.int .i64 0), (.int .i64 0), (.int .i64 0)] [(0, 1, t102), (1, 1, t103), (2, 1, t105)]).map fun c => (Value.agg ⟨c⟩, h39)) fun t106 h40 =>
 k2 (zM 1 (zp (zl [(.int .i64 0), (.int .i64 0), (.int .i64 0)] 1) [(0 * 3, 3, t106)]) h40) fun t107 h41 =>
 k2 (bltV h41 (.append 3 24) [t101, t107]) fun t108 h42 =>
 k2 (zg 2 t11 h42) fun t109 h43 =>
 k2 (zq 1 t109 t108 h43) fun _ h44 =>
 sh X c_h_9 (K_h_9 X) (setL [p2, p4, p8, p11, p70, p71, p72] [t2, t4, t8, t11, t70, t71, t72]) h44)
 (sh X c_h_9 (K_h_9 X) (setL [p2, p4, p8, p11, p70, p71, p72] [t2, t4, t8, t11, t70, t71, t72]) h33))
 (sh X c_h_7 (K_h_7 X) (setL [p2, p11] [t2, t11]) h1) := by kernel_rfl
theorem l_h_8 (F : FuncId → Option zr) (t2 t4 t8 t11 t70 t71 t72 : Value) (h : H) {r : Out} : let X := rI F; sh X c_h_8 (K_h_8 X) (setL [p2, p4, p8, p11, p70, p71, p72] [t2, t4, t8, t11, t70, t71, t72]) h = some r → lp X [p2, p4, p8, p11, p70, p71, p72] c_h_8 (kBlk 6 (kSeq X c_h_7 [p2, p11] (K_h_7 X))) [t2, t4, t8, t11, t70, t71, t72] h = some r := fun hv => zbe (by decide) hv
theorem s_h_5 (X : Rn) (t1 t2 t4 t8 : Value) (h : H) : sh X c_h_5 (K_h_5 X) (setL [p1, p2, p4, p8] [t1, t2, t4, t8]) h =
 k2 (some (t8, h)) fun t62 h1 =>
 k2 (X.call (.func (.func n_N) #[] #[]) [t62, (.func (.func n_C) #[] #[])] h1) fun t63 h2 =>
 k2 (some (t63, h2)) fun t8_3 h4 =>
 k2 (some (t8_3, h4)) fun t64 h5 =>
 k2 (bltV h5 .len [t64]) fun t65 h6 =>
 k2 (zg 1 t1 h6) fun t66 h7 =>
 k2 (zc t66 h7) fun t67 h8 =>
 k2 ((zp [(.int .i64 0), (.int .i64 0), (.slice none 0 0)] [(0, 1, t65), (1, 1, t67)]).map fun c => (Value.agg ⟨c⟩, h8)) fun t68 h9 =>
 k2 (some (zi h9 [(.int .i64 0), (.int .i64 0), (.slice none 0 0)])) fun t11 h10 =>
 k2 (zq 3 t11 t68 h10) fun _ h11 =>
 k2 (zg 2 t1 h11) fun t69 h12 =>
 k2 (zc t69 h12) fun t70 h13 =>
 k2 (bltV h13 .len [t70]) fun t71 h14 =>
 k2 (some ((.int .i64 0), h14)) fun t72 h15 =>
 lp X [p2, p4, p8, p11, p70, p71, p72] c_h_8 (kBlk 6 (kSeq X c_h_7 [p2, p11] (K_h_7 X))) [t2, t4, t8_3, t11, t70, t71, t72] h15 := by kernel_rfl
theorem s_h_6 (X : Rn) (t1 t2 t4 t8 t48 t49 t50 : Value) (h : H) : sh X c_h_6 (K_h_6 X) (setL [p1, p2, p4, p8, p48, p49, p50] [t1, t2, t4, t8, t48, t49, t50]) h =
 k2 (vBin .lss .other t50 t49 h) fun t51 h1 =>
 br t51
 (k2 (zt 1 t48 t50 h1) fun t52 h2 =>
 k2 (zc t52 h2) fun t53 h3 =>
 k2 (some (t53, h3)) fun t10 h4 =>
 k2 (some (t8, h4)) fun t54 h5 =>
 k2 (some (t4, h5)) fun t55 h6 =>
 k2 (some (t10, h6)) fun t56 h7 =>
 k2 (zt 1 t55 t56 h7) fun t57 h8 =>
 k2 (zc t57 h8) fun t58 h9 =>
 k2 (zM 1 (zp (zl [(.int .i64 0)] 1) [(0 * 1, 1, t58)]) h9) fun t59 h10 =>
 k2 (bltV h10 (.append 1 8) [t54, t59]) fun t60 h11 =>
 k2 (some (t60, h11)) fun t8_12 h13 =>
 k2 (vBin .add .other t50 (.int .i64 1) h13) fun t61 h14 =>
 k2 (some (t61, h14)) fun t50_15 h16 =>
 lp X [p1, p2, p4, p8, p48, p49, p50] c_h_6 (kBlk 4 (kSeq X c_h_5 [p1, p2, p4, p8] (K_h_5 X))) [t1, t2, t4, t8_12, t48, t49, t50_15] h16)
 (sh X c_h_5 (K_h_5 X) (setL [p1, p2, p4, p8] [t1, t2, t4, t8]) h1) := by kernel_rfl
theorem l_h_6 (F : FuncId → Option zr) (t1 t2 t4 t8 t48 t49 t50 : Value) (h : H) {r : Out} : let X := rI F; sh X c_h_6 (K_h_6 X) (setL [p1, p2, p4, p8, p48, p49, p50] [t1, t2, t4, t8, t48, t49, t50]) h = some r → lp X [p1, p2, p4, p8, p48, p49, p50] c_h_6 (kBlk 4 (kSeq X c_h_5 [p1, p2, p4, p8] (K_h_5 X))) [t1, t2, t4, t8, t48, t49, t50] h = some r := fun hv => zbe (by decide) hv
theorem s_h_0 (X : Rn) (t1 t2 t4 t5 : Value) (h : H) : sh X zi3 (zi8 X) (setL [p1, p2, p4, p5] [t1, t2, t4, t5]) h =
 k2 (some ((.slice none 0 0), h)) fun t8 h1 =>
 k2 (zc t5 h1) fun t48 h2 =>
 k2 (bltV h2 .len [t48]) fun t49 h3 =>
 k2 (some ((.int .i64 0), h3)) fun t50 h4 =>
 lp X [p1, p2, p4, p8, p48, p49, p50] c_h_6 (kBlk 4 (kSeq X c_h_5 [p1, p2, p4, p8] (K_h_5 X))) [t1, t2, t4, t8, t48, t49, t50] h4 := by kernel_rfl
theorem s_h_2 (X : Rn) (t1 t2 t3 t4 t5 t6 : Value) (h : H) : sh X c_h_2 (K_h_2 X) (setL [p1, p2, p3, p4, p5, p6] [t1, t2, t3, t4, t5, t6]) h =
 k2 (some (t6, h)) fun t29 h1 =>
 k2 (vBin .add .other t29 (.int .i64 1) h1) fun t30 h2 =>
 k2 (some (t30, h2)) fun t6_3 h4 =>
 lp X [p1, p2, p3, p4, p5, p6] c_h_1 (kBlk 0 (kSeq X zi3 [p1, p2, p4, p5] (zi8 X))) [t1, t2, t3, t4, t5, t6_3] h4 := by kernel_rfl
theorem s_h_3 (X : Rn) (l : Nat) (t5 t37 : Value) (h : H) : zX X zeX l [t37] (setL [p5] [t5]) h =
 k2 (some (zi h [(.int .i64 0), (.int .i64 0), (.int .i64 0)])) fun t7 h1 =>
 k2 (zq 3 t7 t37 h1) fun _ h2 =>
 zfn l h2 fun h => sh X c_h_4 (K_h_4 X l) (setL [p5, p7, p37] [t5, t7, t37]) h := by kernel_rfl
theorem s_h_4 (X : Rn) (l : Nat) (t5 t7 t37 : Value) (h : H) : sh X c_h_4 (K_h_4 X l) (setL [p5, p7, p37] [t5, t7, t37]) h =
 k2 (zc t5 h) fun t38 h1 =>
 k2 (zg 1 t7 h1) fun t39 h2 =>
 k2 (zc t39 h2) fun t40 h3 =>
 k2 (X.call (.func (.func n_y) #[] #[]) [t38, t40] h3) fun t41 h4 =>
 k2 (vUn .not t41 h4) fun t42 h5 =>
 br t42
 (k2 (zc t5 h5) fun t43 h6 =>
 k2 (zg 1 t7 h6) fun t44 h7 =>
 k2 (zc t44 h7) fun t45 h8 =>
 k2 (zM 1 (zp (zl [(.int .i64 0)] 1) [(0 * 1, 1, t45)]) h8) fun t46 h9 =>
 k2 (bltV h9 (.append 1 8) [t43, t46]) fun t47 h10 =>
 k2 (zq 1 t5 t47 h10) fun _ h11 =>
 fin l none h11)
 (fin l none h5) := by kernel_rfl
theorem s_h_1 (X : Rn) (t1 t2 t3 t4 t5 t6 : Value) (h : H) : sh X c_h_1 (K_h_1 X) (setL [p1, p2, p3, p4, p5, p6] [t1, t2, t3, t4, t5, t6]) h =
 k2 (some (t6, h)) fun t25 h1 =>
 k2 (zc t5 h1) fun t26 h2 =>
 k2 (bltV h2 .len [t26]) fun t27 h3 =>
 k2 (vBin .lss .other t25 t27 h3) fun t28 h4 =>
 br t28
 (k2 (rdF (fun b => zh 3 t1 b) 0 h4 [(0, h4)]) fun t31 h5 =>
 k2 (rdF (fun b => zc t5 b) 0 h5 [(0, h4)]) fun t32 h6 =>
 k2 (some (t6, h6)) fun t33 h7 =>
 k2 (zt 1 t32 t33 h7) fun t34 h8 =>
 k2 (rdF (fun b => zc t34 b) 0 h8 [(0, h4)]) fun t35 h9 =>
 k2 (X.call (.func (.func n_A) #[] #[]) [t31, t35] h9) fun t36 h10 =>
 (isFn t36).bind fun fv => k2 (X.call fv [.func (.yield h10.next) #[] #[]] (h10.new (.loop .ready none (setL [p5] [t5]) zeX))) fun _ h11 =>
 rgP h10.next h11 (fun h12 => sh X c_h_2 (K_h_2 X) (setL [p1, p2, p3, p4, p5, p6] [t1, t2, t3, t4, t5, t6]) h12) (fun i h12 => bx i 2 (sh X c_h_2 (K_h_2 X) (setL [p1, p2, p3, p4, p5, p6] [t1, t2, t3, t4, t5, t6]) h12) (bx i 1 (sh X c_h_2 (K_h_2 X) (setL [p1, p2, p3, p4, p5, p6] [t1, t2, t3, t4, t5, t6]) h12) (bx i 0 (sh X zi3 (zi8 X) (setL [p1, p2, p4, p5] [t1, t2, t4, t5]) h12) (none)))) (fun h12 => (vRes (some 3) t2 h12).bind fun r0 => some (.val (ze [r0, t3]) h12)))
 (sh X zi3 (zi8 X) (setL [p1, p2, p4, p5] [t1, t2, t4, t5]) h4) := by kernel_rfl
theorem l_h_1 (F : FuncId → Option zr) (t1 t2 t3 t4 t5 t6 : Value) (h : H) {r : Out} : let X := rI F; sh X c_h_1 (K_h_1 X) (setL [p1, p2, p3, p4, p5, p6] [t1, t2, t3, t4, t5, t6]) h = some r → lp X [p1, p2, p3, p4, p5, p6] c_h_1 (kBlk 0 (kSeq X zi3 [p1, p2, p4, p5] (zi8 X))) [t1, t2, t3, t4, t5, t6] h = some r := fun hv => zbe (by decide) hv
theorem s_h (X : Rn) (t0 : Value) (h : H) : zn X 1 f_h [t0] h =
 k2 (some (zi h (zj t0))) fun t1 h1 =>
 k2 (some (zi h1 [(.int .i64 0), (.int .i64 0), (.slice none 0 0)])) fun t2 h2 =>
 k2 (some ((.int .i64 0), h2)) fun t3 h3 =>
 k2 (zh 3 t1 h3) fun t18 h4 =>
 k2 (X.call (.func (.func n_n) #[] #[]) [t18] h4) fun t19 h5 =>
 k2 (vBin .neq .other t19 (.int .i64 0) h5) fun t20 h6 =>
 br t20
 (k2 ((zp [(.int .i64 0), (.int .i64 0), (.slice none 0 0)] []).map fun c => (Value.agg ⟨c⟩, h6)) fun t21 h7 =>
 k2 (zq 3 t2 t21 h7) fun _ h8 =>
 k2 (some ((.int .i64 2), h8)) fun t3_9 h10 =>
 (vRes (some 3) t2 h10).bind fun r0 => some (.val (ze [r0, t3_9]) h10))
 (k2 (zh 3 t1 h6) fun t22 h11 =>
 k2 (X.call (.func (.func n_e) #[] #[]) [t22] h11) fun t23 h12 =>
 k2 (some (t23, h12)) fun t4 h13 =>
 k2 (zM 1 (zp (zl [(.int .i64 0)] 1) [(0 * 1, 1, (.int .i64 0))]) h13) fun t24 h14 =>
 k2 (some (zi h14 [(.slice none 0 0)])) fun t5 h15 =>
 k2 (zq 1 t5 t24 h15) fun _ h16 =>
 k2 (some ((.int .i64 0), h16)) fun t6 h17 =>
 lp X [p1, p2, p3, p4, p5, p6] c_h_1 (kBlk 0 (kSeq X zi3 [p1, p2, p4, p5] (zi8 X))) [t1, t2, t3, t4, t5, t6] h17) := by kernel_rfl
theorem s_G (X : Rn) (t0 t1 : Value) (h : H) : zn X 2 f_G [t0, t1] h =
 k2 (some (zi h (zj t0))) fun t2 h1 =>
 k2 (some (zi h1 (zj t1))) fun t3 h2 =>
 k2 (some ((.int .i64 0), h2)) fun t4 h3 =>
 k2 (zg 0 t2 h3) fun t5 h4 =>
 k2 (rdF (fun b => zc t5 b) 0 h4 [(0, h3)]) fun t6 h5 =>
 k2 (zg 0 t3 h5) fun t7 h6 =>
 k2 (rdF (fun b => zc t7 b) 0 h6 [(0, h3)]) fun t8 h7 =>
 k2 (X.call (.func (.func n_C) #[] #[]) [t6, t8] h7) fun t9 h8 =>
 k2 (zg 2 t2 h8) fun t10 h9 =>
 k2 (rdF (fun b => zc t10 b) 0 h9 [(1, h8), (0, h3)]) fun t11 h10 =>
 k2 (zg 2 t3 h10) fun t12 h11 =>
 k2 (rdF (fun b => zc t12 b) 0 h11 [(1, h8), (0, h3)]) fun t13 h12 =>
 k2 (X.call (.func (.func n_C) #[] #[]) [t11, t13] h12) fun t14 h13 =>
 k2 (zg 1 t2 h13) fun t15 h14 =>
 k2 (rdF (fun b => zc t15 b) 0 h14 [(2, h13), (1, h8), (0, h3)]) fun t16 h15 =>
 k2 (zg 1 t3 h15) fun t17 h16 =>
 k2 (rdF (fun b => zc t17 b) 0 h16 [(2, h13), (1, h8), (0, h3)]) fun t18 h17 =>
 k2 (X.call (.func (.func n_C) #[] #[]) [t16, t18] h17) fun t19 h18 =>
 k2 (zM 3 (zp (zl [(.int .i64 0)] 3) [(0 * 1, 1, t9), (1 * 1, 1, t14), (2 * 1, 1, t19)]) h18) fun t20 h19 =>
 k2 (X.call (.func (.func n_v) #[] #[]) [t20] h19) fun t21 h20 =>
 k2 (some (t21, h20)) fun t4 h21 =>
 some (.val (ze [t4]) h21) := by kernel_rfl
theorem s_c_1 (X : Rn) (t1 t3 t4 : Value) (h : H) : sh X c_c_1 (K_c_1 X) (setL [p1, p3, p4] [t1, t3, t4]) h =
 k2 (some (t4, h)) fun t15 h1 =>
 k2 (vBin .add .other t15 (.int .i64 1) h1) fun t16 h2 =>
 k2 (some (t16, h2)) fun t4_3 h4 =>
 lp X [p1, p3, p4] zhd (kBlk 0 (fnK [.tmp p2])) [t1, t3, t4_3] h4 := by kernel_rfl
theorem s_c_8 (X : Rn) (t1 t3 t4 t70 t71 t72 : Value) (h : H) : sh X zg9 (K_c_8 X) (setL [p1, p3, p4, p70, p71, p72] [t1, t3, t4, t70, t71, t72]) h =
 k2 (vBin .lss .other t72 t71 h) fun t73 h1 =>
 br t73
 (k2 (zt 2 t70 t72 h1) fun t74 h2 =>
 k2 (zh 2 t74 h2) fun t75 h3 =>
 k2 (some (zi h3 [(.int .i64 0), (.int .i64 0)])) fun t13 h4 =>
 k2 (zq 2 t13 t75 h4) fun _ h5 =>
 k2 (some (t3, h5)) fun t76 h6 =>
 k2 (rdF (fun b => zh 2 t13 b) 0 h6 [(0, h5)]) fun t77 h7 =>
 k2 (some (t4, h7)) fun t84 h8 =>
 k2 (ze2 (.leaves [0, 1]) h8 t77 t84 t76) fun _ h9 =>
 k2 (some (t3, h9)) fun t78 h10 =>
 k2 (zdA 2 1 t13 (.int .i64 1) h10) fun t79 h11 =>
 k2 (rdF (fun b => zc t79 b) 0 h11 [(1, h9), (0, h5)]) fun t80 h12 =>
 k2 (zdA 2 1 t13 (.int .i64 0) h12) fun t81 h13 =>
 k2 (rdF (fun b => zc t81 b) 0 h13 [(1, h9), (0, h5)]) fun t82 h14 =>
 k2 ((zp [(.int .i64 0), (.int .i64 0)] [(0, 1, t80), (1, 1, t82)]).map fun c => (Value.agg ⟨c⟩, h14)) fun t83 h15 =>
 k2 (some (t4, h15)) fun t85 h16 =>
 k2 (ze2 (.leaves [0, 1]) h16 t83 t85 t78) fun _ h17 =>
 k2 (vBin .add .other t72 (.int .i64 1) h17) fun t86 h18 =>
 k2 (some (t86, h18)) fun t72_19 h20 =>
 lp X [p1, p3, p4, p70, p71, p72] zg9 (kBlk 6 (ziQ X)) [t1, t3, t4, t70, t71, t72_19] h20)
 (sh X c_c_1 (K_c_1 X) (setL [p1, p3, p4] [t1, t3, t4]) h1) := by kernel_rfl
theorem l_c_8 (F : FuncId → Option zr) (t1 t3 t4 t70 t71 t72 : Value) (h : H) {r : Out} : let X := rI F; sh X zg9 (K_c_8 X) (setL [p1, p3, p4, p70, p71, p72] [t1, t3, t4, t70, t71, t72]) h = some r → lp X [p1, p3, p4, p70, p71, p72] zg9 (kBlk 6 (ziQ X)) [t1, t3, t4, t70, t71, t72] h = some r := fun hv => zbe (by decide) hv
theorem s_c_2 (X : Rn) (t1 t3 t4 t5 : Value) (h : H) : sh X zgt (ziQ X) (setL [p1, p3, p4, p5] [t1, t3, t4, t5]) h =
 k2 (some (t5, h)) fun t66 h1 =>
 k2 (bltV h1 .len [t66]) fun t67 h2 =>
 k2 (vBin .eql .other t67 (.int .i64 0) h2) fun t68 h3 =>
 br t68
 (k2 (some (t3, h3)) fun t69 h4 =>
 k2 (some (t69, h4)) fun t2 h5 =>
 some (.val (ze [t2]) h5))
 (k2 (some (t5, h3)) fun t70 h6 =>
 k2 (bltV h6 .len [t70]) fun t71 h7 =>
 k2 (some ((.int .i64 0), h7)) fun t72 h8 =>
 lp X [p1, p3, p4, p70, p71, p72] zg9 (kBlk 6 (ziQ X)) [t1, t3, t4, t70, t71, t72] h8) := by kernel_rfl
theorem s_c_4 (X : Rn) (t1 t3 t4 t5 t18 t19 : Value) (h : H) : sh X zhb (K_c_4 X) (setL [p1, p3, p4, p5, p18, p19] [t1, t3, t4, t5, t18, t19]) h =
 k2 (vBin .add .other t19 (.int .i64 1) h) fun t65 h1 =>
 k2 (some (t65, h1)) fun t19_2 h3 =>
 lp X [p1, p3, p4, p5, p18, p19] zhc (kBlk 2 (kSeq X zgt [p1, p3, p4, p5] (ziQ X))) [t1, t3, t4, t5, t18, t19_2] h3 := by kernel_rfl
theorem s_c_6 (X : Rn) (t1 t3 t4 t5 t6 t18 t19 t22 t23 : Value) (h : H) : sh X zir (K_c_6 X) (setL [p1, p3, p4, p5, p6, p18, p19, p22, p23] [t1, t3, t4, t5, t6, t18, t19, t22, t23]) h =
 k2 (vBin .add .other t23 (.int .i64 1) h) fun t64 h1 =>
 k2 (some (t64, h1)) fun t23_2 h3 =>
 lp X [p1, p3, p4, p5, p6, p18, p19, p22, p23] zha (kBlk 4 (kBlk 3 (kSeq X zhb [p1, p3, p4, p5, p18, p19] (K_c_4 X)))) [t1, t3, t4, t5, t6, t18, t19, t22, t23_2] h3 := by kernel_rfl
theorem s_c_7 (X : Rn) (t1 t3 t4 t5 t6 t7 t11 t18 t19 t22 t23 : Value) (h : H) : sh X c_c_7 (K_c_7 X) (setL [p1, p3, p4, p5, p6, p7, p11, p18, p19, p22, p23] [t1, t3, t4, t5, t6, t7, t11, t18, t19, t22, t23]) h =
 k2 (some (t11, h)) fun t57 h1 =>
 br t57
 (k2 (some (t5, h1)) fun t58 h2 =>
 k2 (some (t6, h2)) fun t59 h3 =>
 k2 (some (t7, h3)) fun t60 h4 =>
 k2 ((zp [(.int .i64 0), (.int .i64 0)] [(0, 1, t59), (1, 1, t60)]).map fun c => (Value.agg ⟨c⟩, h4)) fun t61 h5 =>
 k2 (zM 1 (zp (zl [(.int .i64 0), (.int .i64 0)] 1) [(0 * 2, 2, t61)]) h5) fun t62 h6 =>
 k2 (bltV h6 (.append 2 16) [t58, t62]) fun t63 h7 =>
 k2 (some (t63, h7)) fun t5_8 h9 =>
 sh X zir (K_c_6 X) (setL [p1, p3, p4, p5, p6, p18, p19, p22, p23] [t1, t3, t4, t5_8, t6, t18, t19, t22, t23]) h9)
 (sh X zir (K_c_6 X) (setL [p1, p3, p4, p5, p6, p18, p19, p22, p23] [t1, t3, t4, t5, t6, t18, t19, t22, t23]) h1) := by kernel_rfl
theorem s_c_5 (X : Rn) (t1 t3 t4 t5 t6 t18 t19 t22 t23 : Value) (h : H) : sh X zha (K_c_5 X) (setL [p1, p3, p4, p5, p6, p18, p19, p22, p23] [t1, t3, t4, t5, t6, t18, t19, t22, t23]) h =
 k2 (vBin .lss .other t23 t22 h) fun t24 h1 =>
 br t24
 (k2 (some (t23, h1)) fun t25 h2 =>
 k2 (some (t25, h2)) fun t7 h3 =>
 k2 (some (t3, h3)) fun t27 h4 =>
 k2 (some (t6, h4)) fun t28 h5 =>
 k2 (some (t7, h5)) fun t29 h6 =>
 k2 ((zp [(.int .i64 0), (.int .i64 0)] [(0, 1, t28), (1, 1, t29)]).map fun c => (Value.agg ⟨c⟩, h6)) fun t30 h7 =>
 k2 (zb0 (.leaves [0, 1]) (.int .i64 0) true t27 t30 h7) fun t31 h8 =>
 k2 (some (t31, h8)) fun t26 h9 =>
 k2 (zm 0 t26 h9) fun t32 h10 =>
 k2 (zm 1 t26 h10) fun t33 h11 =>
 k2 (some (t32, h11)) fun t8 h12 =>
 k2 (some (t33, h12)) fun t9 h13 =>
 k2 (some (t9, h13)) fun t34 h14 =>
 br t34
 (sh X zir (K_c_6 X) (setL [p1, p3, p4, p5, p6, p18, p19, p22, p23] [t1, t3, t4, t5, t6, t18, t19, t22, t23]) h14)
 (k2 (some (t3, h14)) fun t36 h15 =>
 k2 (zh 3 t1 h15) fun t37 h16 =>
 k2 (some (t6, h16)) fun t38 h17 =>
 k2 (some (t7, h17)) fun t39 h18 =>
 k2 (some (t4, h18)) fun t40 h19 =>
 k2 (vBin .sub .other t40 (.int .i64 1) h19) fun t41 h20 =>
 k2 (X.call (.func (.func n_i) #[] #[]) [t36, t37, t38, t39, t41] h20) fun t42 h21 =>
 k2 (some (t42, h21)) fun t35 h22 =>
 k2 (zm 0 t35 h22) fun t43 h23 =>
 k2 (zm 1 t35 h23) fun t44 h24 =>
 k2 (some (zi h24 [(.int .i64 0), (.int .i64 0), (.int .i64 0)])) fun t10 h25 =>
 k2 (zq 3 t10 t43 h25) fun _ h26 =>
 k2 (some (t44, h26)) fun t11 h27 =>
 k2 (some (t11, h27)) fun t45 h28 =>
 k2 (vUn .not t45 h28) fun t46 h29 =>
 br t46
 (k2 (some (t3, h29)) fun t48 h30 =>
 k2 (zh 3 t1 h30) fun t49 h31 =>
 k2 (some (t7, h31)) fun t50 h32 =>
 k2 (some (t6, h32)) fun t51 h33 =>
 k2 (some (t4, h33)) fun t52 h34 =>
 k2 (vBin .sub .other t52 (.int .i64 1) h34) fun t53 h35 =>
 k2 (X.call (.func (.func n_i) #[] #[]) [t48, t49, t50, t51, t53] h35) fun t54 h36 =>
 k2 (some (t54, h36)) fun t47 h37 =>
 k2 (zm 0 t47 h37) fun t55 h38 =>
 k2 (zm 1 t47 h38) fun t56 h39 =>
 k2 (some (t56, h39)) fun t11_40 h41 =>
 sh X c_c_7 (K_c_7 X) (setL [p1, p3, p4, p5, p6, p7, p11, p18, p19, p22, p23] [t1, t3, t4, t5, t6, t7, t11_40, t18, t19, t22, t23]) h41)
 (sh X c_c_7 (K_c_7 X) (setL [p1, p3, p4, p5, p6, p7, p11, p18, p19, p22, p23] [t1, t3, t4, t5, t6, t7, t11, t18, t19, t22, t23]) h29)))
 (sh X zhb (K_c_4 X) (setL [p1, p3, p4, p5, p18, p19] [t1, t3, t4, t5, t18, t19]) h1) := by kernel_rfl
theorem l_c_5 (F : FuncId → Option zr) (t1 t3 t4 t5 t6 t18 t19 t22 t23 : Value) (h : H) {r : Out} : let X := rI F; sh X zha (K_c_5 X) (setL [p1, p3, p4, p5, p6, p18, p19, p22, p23] [t1, t3, t4, t5, t6, t18, t19, t22, t23]) h = some r → lp X [p1, p3, p4, p5, p6, p18, p19, p22, p23] zha (kBlk 4 (kBlk 3 (kSeq X zhb [p1, p3, p4, p5, p18, p19] (K_c_4 X)))) [t1, t3, t4, t5, t6, t18, t19, t22, t23] h = some r := fun hv => zbe (by decide) hv
theorem s_c_3 (X : Rn) (t1 t3 t4 t5 t18 t19 : Value) (h : H) : sh X zhc (K_c_3 X) (setL [p1, p3, p4, p5, p18, p19] [t1, t3, t4, t5, t18, t19]) h =
 k2 (vBin .lss .other t19 t18 h) fun t20 h1 =>
 br t20
 (k2 (some (t19, h1)) fun t21 h2 =>
 k2 (some (t21, h2)) fun t6 h3 =>
 k2 (some (t6, h3)) fun t22 h4 =>
 k2 (some ((.int .i64 0), h4)) fun t23 h5 =>
 lp X [p1, p3, p4, p5, p6, p18, p19, p22, p23] zha (kBlk 4 (kBlk 3 (kSeq X zhb [p1, p3, p4, p5, p18, p19] (K_c_4 X)))) [t1, t3, t4, t5, t6, t18, t19, t22, t23] h5)
 (sh X zgt (ziQ X) (setL [p1, p3, p4, p5] [t1, t3, t4, t5]) h1) := by kernel_rfl
theorem l_c_3 (F : FuncId → Option zr) (t1 t3 t4 t5 t18 t19 : Value) (h : H) {r : Out} : let X := rI F; sh X zhc (K_c_3 X) (setL [p1, p3, p4, p5, p18, p19] [t1, t3, t4, t5, t18, t19]) h = some r → lp X [p1, p3, p4, p5, p18, p19] zhc (kBlk 2 (kSeq X zgt [p1, p3, p4, p5] (ziQ X))) [t1, t3, t4, t5, t18, t19] h = some r := fun hv => zbe (by decide) hv
theorem s_c_0 (X : Rn) (t1 t3 t4 : Value) (h : H) : sh X zhd (K_c_0 X) (setL [p1, p3, p4] [t1, t3, t4]) h =
 k2 (some ((.slice none 0 0), h)) fun t5 h1 =>
 k2 (zg 0 t1 h1) fun t17 h2 =>
 k2 (zc t17 h2) fun t18 h3 =>
 k2 (some ((.int .i64 0), h3)) fun t19 h4 =>
 lp X [p1, p3, p4, p5, p18, p19] zhc (kBlk 2 (kSeq X zgt [p1, p3, p4, p5] (ziQ X))) [t1, t3, t4, t5, t18, t19] h4 := by kernel_rfl
theorem l_c_0 (F : FuncId → Option zr) (t1 t3 t4 : Value) (h : H) {r : Out} : let X := rI F; sh X zhd (K_c_0 X) (setL [p1, p3, p4] [t1, t3, t4]) h = some r → lp X [p1, p3, p4] zhd (kBlk 0 (fnK [.tmp p2])) [t1, t3, t4] h = some r := fun hv => zbe (by decide) hv
theorem s_c (X : Rn) (t0 : Value) (h : H) : zn X 1 f_c [t0] h =
 k2 (some (zi h (zj t0))) fun t1 h1 =>
 k2 (some ((.map none), h1)) fun t2 h2 =>
 k2 (some (.map (some h2.next), h2.new (.map [] 0))) fun t14 h3 =>
 k2 (some (t14, h3)) fun t3 h4 =>
 k2 (some ((.int .i64 1), h4)) fun t4 h5 =>
 lp X [p1, p3, p4] zhd (kBlk 0 (fnK [.tmp p2])) [t1, t3, t4] h5 := by kernel_rfl
theorem s_K (X : Rn) (t0 t1 : Value) (h : H) : zn X 2 f_K [t0, t1] h =
 k2 (some (zi h (zj t0))) fun t2 h1 =>
 k2 (some (zi h1 (zj t1))) fun t3 h2 =>
 k2 (some ((.bool false), h2)) fun t4 h3 =>
 k2 (zh 3 t2 h3) fun t5 h4 =>
 k2 (X.call (.func (.func n_n) #[] #[]) [t5] h4) fun t6 h5 =>
 k2 (vBin .eql .other t6 (.int .i64 0) h5) fun t7 h6 =>
 k2 (some (t7, h6)) fun t8 h7 =>
 k2 (gd t8 true h7 (zh 3 t3 h7)) fun t9 h8 =>
 k2 (gd t8 true h8 (X.call (.func (.func n_n) #[] #[]) [t9] h8)) fun t10 h9 =>
 k2 (gd t8 true h9 (vBin .eql .other t10 (.int .i64 0) h9)) fun t11 h10 =>
 k2 (zG t8 t11 (.bool false) h10) fun t12 h11 =>
 k2 (some (t12, h11)) fun t13 h12 =>
 k2 (gd t13 true h12 (zg 1 t2 h12)) fun t14 h13 =>
 k2 (gd t13 true h13 (zc t14 h13)) fun t15 h14 =>
 k2 (gd t13 true h14 (zg 1 t3 h14)) fun t16 h15 =>
 k2 (gd t13 true h15 (zc t16 h15)) fun t17 h16 =>
 k2 (gd t13 true h16 (vBin .eql .other t15 t17 h16)) fun t18 h17 =>
 k2 (zG t13 t18 (.bool false) h17) fun t19 h18 =>
 k2 (some (t19, h18)) fun t4 h19 =>
 some (.val (ze [t4]) h19) := by kernel_rfl
theorem s_w_0 (X : Rn) (t2 t5 : Value) (h : H) : sh X zg2 (K_w_0 X) (setL [p2, p5] [t2, t5]) h =
 k2 (rdF (fun b => zh 3 t5 b) 0 h [(0, h)]) fun t48 h1 =>
 k2 (X.call (.func (.func n_c) #[] #[]) [t48] h1) fun t49 h2 =>
 k2 (zg 0 t2 h2) fun t50 h3 =>
 k2 (rdF (fun b => zc t50 b) 0 h3 [(1, h2), (0, h)]) fun t51 h4 =>
 k2 ((zp [(.int .i64 0), (.int .i64 0)] [(0, 1, (.int .i64 0)), (1, 1, t51)]).map fun c => (Value.agg ⟨c⟩, h4)) fun t52 h5 =>
 k2 (rdF (fun b => zb0 (.leaves [0, 1]) (.int .i64 0) true t49 t52 b) 1 h5 [(1, h2), (0, h)]) fun t53 h6 =>
 k2 (some (t53, h6)) fun t47 h7 =>
 k2 (zm 0 t47 h7) fun t54 h8 =>
 k2 (zm 1 t47 h8) fun t55 h9 =>
 k2 (some (t54, h9)) fun t8 h10 =>
 k2 (some (t55, h10)) fun t9 h11 =>
 k2 (some (t9, h11)) fun t56 h12 =>
 k2 (vUn .not t56 h12) fun t57 h13 =>
 k2 (some (t57, h13)) fun t4 h14 =>
 some (.val (ze [t4]) h14) := by kernel_rfl
theorem s_w_1 (X : Rn) (t2 t5 t22 t23 t24 : Value) (h : H) : sh X zg1 (K_w_1 X) (setL [p2, p5, p22, p23, p24] [t2, t5, t22, t23, t24]) h =
 k2 (vBin .lss .other t24 t23 h) fun t25 h1 =>
 br t25
 (k2 (zt 3 t22 t24 h1) fun t26 h2 =>
 k2 (zh 3 t26 h2) fun t27 h3 =>
 k2 (some (zi h3 [(.int .i64 0), (.int .i64 0), (.int .i64 0)])) fun t7 h4 =>
 k2 (zq 3 t7 t27 h4) fun _ h5 =>
 k2 (zg 2 t5 h5) fun t28 h6 =>
 k2 (zc t28 h6) fun t29 h7 =>
 k2 (zg 0 t7 h7) fun t30 h8 =>
 k2 (zc t30 h8) fun t31 h9 =>
 k2 (zg 0 t2 h9) fun t32 h10 =>
 k2 (zc t32 h10) fun t33 h11 =>
 k2 (vBin .add .other t31 t33 h11) fun t34 h12 =>
 k2 (zg 1 t7 h12) fun t35 h13 =>
 k2 (zc t35 h13) fun t36 h14 =>
 k2 (zg 0 t2 h14) fun t37 h15 =>
 k2 (zc t37 h15) fun t38 h16 =>
 k2 (vBin .add .other t36 t38 h16) fun t39 h17 =>
 k2 (zg 2 t7 h17) fun t40 h18 =>
 k2 (zc t40 h18) fun t41 h19 =>
 k2 ((zp [(.int .i64 0), (.int .i64 0), (.int .i64 0)] [(0, 1, t34), (1, 1, t39), (2, 1, t41)]).map fun c => (Value.agg ⟨c⟩, h19)) fun t42 h20 =>
 k2 (zM 1 (zp (zl [(.int .i64 0), (.int .i64 0), (.int .i64 0)] 1) [(0 * 3, 3, t42)]) h20) fun t43 h21 =>
 k2 (bltV h21 (.append 3 24) [t29, t43]) fun t44 h22 =>
 k2 (zg 2 t5 h22) fun t45 h23 =>
 k2 (zq 1 t45 t44 h23) fun _ h24 =>
 k2 (vBin .add .other t24 (.int .i64 1) h24) fun t46 h25 =>
 k2 (some (t46, h25)) fun t24_26 h27 =>
 lp X [p2, p5, p22, p23, p24] zg1 (kBlk 0 (kSeq X zg2 [p2, p5] (K_w_0 X))) [t2, t5, t22, t23, t24_26] h27)
 (sh X zg2 (K_w_0 X) (setL [p2, p5] [t2, t5]) h1) := by kernel_rfl
theorem l_w_1 (F : FuncId → Option zr) (t2 t5 t22 t23 t24 : Value) (h : H) {r : Out} : let X := rI F; sh X zg1 (K_w_1 X) (setL [p2, p5, p22, p23, p24] [t2, t5, t22, t23, t24]) h = some r → lp X [p2, p5, p22, p23, p24] zg1 (kBlk 0 (kSeq X zg2 [p2, p5] (K_w_0 X))) [t2, t5, t22, t23, t24] h = some r := fun hv => zbe (by decide) hv
theorem s_w (X : Rn) (t0 t1 : Value) (h : H) : zn X 2 f_w [t0, t1] h =
 k2 (some (zi h (zj t0))) fun t2 h1 =>
 k2 (some (zi h1 (zj t1))) fun t3 h2 =>
 k2 (some ((.bool false), h2)) fun t4 h3 =>
 k2 (zg 2 t2 h3) fun t17 h4 =>
 k2 (rdF (fun b => zc t17 b) 0 h4 [(0, h3)]) fun t18 h5 =>
 k2 (X.call (.func (.func n_m) #[] #[]) [t18] h5) fun t19 h6 =>
 k2 (zg 0 t2 h6) fun t10 h7 =>
 k2 (rdF (fun b => zc t10 b) 0 h7 [(1, h6), (0, h3)]) fun t11 h8 =>
 k2 (zg 0 t3 h8) fun t12 h9 =>
 k2 (rdF (fun b => zc t12 b) 0 h9 [(1, h6), (0, h3)]) fun t13 h10 =>
 k2 (vBin .add .other t11 t13 h10) fun t14 h11 =>
 k2 (zg 1 t2 h11) fun t15 h12 =>
 k2 (rdF (fun b => zc t15 b) 0 h12 [(1, h6), (0, h3)]) fun t16 h13 =>
 k2 ((zp [(.int .i64 0), (.int .i64 0), (.slice none 0 0)] [(0, 1, t14), (1, 1, t16), (2, 1, t19)]).map fun c => (Value.agg ⟨c⟩, h13)) fun t20 h14 =>
 k2 (some (zi h14 [(.int .i64 0), (.int .i64 0), (.slice none 0 0)])) fun t5 h15 =>
 k2 (zq 3 t5 t20 h15) fun _ h16 =>
 k2 (zg 2 t3 h16) fun t21 h17 =>
 k2 (zc t21 h17) fun t22 h18 =>
 k2 (bltV h18 .len [t22]) fun t23 h19 =>
 k2 (some ((.int .i64 0), h19)) fun t24 h20 =>
 lp X [p2, p5, p22, p23, p24] zg1 (kBlk 0 (kSeq X zg2 [p2, p5] (K_w_0 X))) [t2, t5, t22, t23, t24] h20 := by kernel_rfl
theorem s_e_0 (X : Rn) (t4 : Value) (h : H) : sh X ziq (K_e_0 X) (setL [p4] [t4]) h =
 k2 (some (t4, h)) fun t50 h1 =>
 k2 (some (t50, h1)) fun t2 h2 =>
 some (.val (ze [t2]) h2) := by kernel_rfl
theorem s_e_2 (X : Rn) (t3 t4 t5 t14 t15 : Value) (h : H) : sh X zi4 (K_e_2 X) (setL [p3, p4, p5, p14, p15] [t3, t4, t5, t14, t15]) h =
 k2 (vBin .add .other t15 (.int .i64 1) h) fun t49 h1 =>
 k2 (some (t49, h1)) fun t15_2 h3 =>
 lp X [p3, p4, p5, p14, p15] zg8 (kBlk 0 (kSeq X ziq [p4] (K_e_0 X))) [t3, t4, t5, t14, t15_2] h3 := by kernel_rfl
theorem s_e_3 (X : Rn) (t3 t4 t5 t6 t14 t15 : Value) (h : H) : sh X zg7 (K_e_3 X) (setL [p3, p4, p5, p6, p14, p15] [t3, t4, t5, t6, t14, t15]) h =
 k2 (some (t4, h)) fun t40 h1 =>
 k2 (some (t5, h1)) fun t41 h2 =>
 k2 (bltV h2 .len [t41]) fun t42 h3 =>
 k2 (zM 1 (zp (zl [(.int .i64 0)] 1) [(0 * 1, 1, t42)]) h3) fun t43 h4 =>
 k2 (bltV h4 (.append 1 8) [t40, t43]) fun t44 h5 =>
 k2 (some (t44, h5)) fun t4_6 h7 =>
 k2 (some (t5, h7)) fun t45 h8 =>
 k2 (some (t6, h8)) fun t46 h9 =>
 k2 (zM 1 (zp (zl [(.int .i64 0)] 1) [(0 * 1, 1, t46)]) h9) fun t47 h10 =>
 k2 (bltV h10 (.append 1 8) [t45, t47]) fun t48 h11 =>
 k2 (some (t48, h11)) fun t5_12 h13 =>
 sh X zi4 (K_e_2 X) (setL [p3, p4, p5, p14, p15] [t3, t4_6, t5_12, t14, t15]) h13 := by kernel_rfl
theorem s_e_4 (X : Rn) (t3 t4 t5 t6 t14 t15 t18 t19 t20 : Value) (h : H) : sh X zg6 (K_e_4 X) (setL [p3, p4, p5, p6, p14, p15, p18, p19, p20] [t3, t4, t5, t6, t14, t15, t18, t19, t20]) h =
 k2 (vBin .lss .other t20 t19 h) fun t21 h1 =>
 br t21
 (k2 (some (t20, h1)) fun t22 h2 =>
 k2 (zt 1 t18 t20 h2) fun t23 h3 =>
 k2 (zc t23 h3) fun t24 h4 =>
 k2 (some (t22, h4)) fun t7 h5 =>
 k2 (some (t24, h5)) fun t8 h6 =>
 k2 (some (t3, h6)) fun t26 h7 =>
 k2 (some (t8, h7)) fun t27 h8 =>
 k2 (some (t6, h8)) fun t28 h9 =>
 k2 ((zp [(.int .i64 0), (.int .i64 0)] [(0, 1, t27), (1, 1, t28)]).map fun c => (Value.agg ⟨c⟩, h9)) fun t29 h10 =>
 k2 (zb0 (.leaves [0, 1]) (.int .i64 0) true t26 t29 h10) fun t30 h11 =>
 k2 (some (t30, h11)) fun t25 h12 =>
 k2 (zm 0 t25 h12) fun t31 h13 =>
 k2 (zm 1 t25 h13) fun t32 h14 =>
 k2 (some (t31, h14)) fun t9 h15 =>
 k2 (some (t32, h15)) fun t10 h16 =>
 k2 (some (t10, h16)) fun t33 h17 =>
 k2 (vUn .not t33 h17) fun t34 h18 =>
 br t34
 (k2 (some (t4, h18)) fun t35 h19 =>
 k2 (some (t7, h19)) fun t36 h20 =>
 k2 (zM 1 (zp (zl [(.int .i64 0)] 1) [(0 * 1, 1, t36)]) h20) fun t37 h21 =>
 k2 (bltV h21 (.append 1 8) [t35, t37]) fun t38 h22 =>
 k2 (some (t38, h22)) fun t4_23 h24 =>
 sh X zi4 (K_e_2 X) (setL [p3, p4, p5, p14, p15] [t3, t4_23, t5, t14, t15]) h24)
 (k2 (vBin .add .other t20 (.int .i64 1) h18) fun t39 h25 =>
 k2 (some (t39, h25)) fun t20_26 h27 =>
 lp X [p3, p4, p5, p6, p14, p15, p18, p19, p20] zg6 (kBlk 2 (kSeq X zg7 [p3, p4, p5, p6, p14, p15] (K_e_3 X))) [t3, t4, t5, t6, t14, t15, t18, t19, t20_26] h27))
 (sh X zg7 (K_e_3 X) (setL [p3, p4, p5, p6, p14, p15] [t3, t4, t5, t6, t14, t15]) h1) := by kernel_rfl
theorem l_e_4 (F : FuncId → Option zr) (t3 t4 t5 t6 t14 t15 t18 t19 t20 : Value) (h : H) {r : Out} : let X := rI F; sh X zg6 (K_e_4 X) (setL [p3, p4, p5, p6, p14, p15, p18, p19, p20] [t3, t4, t5, t6, t14, t15, t18, t19, t20]) h = some r → lp X [p3, p4, p5, p6, p14, p15, p18, p19, p20] zg6 (kBlk 2 (kSeq X zg7 [p3, p4, p5, p6, p14, p15] (K_e_3 X))) [t3, t4, t5, t6, t14, t15, t18, t19, t20] h = some r := fun hv => zbe (by decide) hv
theorem s_e_1 (X : Rn) (t3 t4 t5 t14 t15 : Value) (h : H) : sh X zg8 (K_e_1 X) (setL [p3, p4, p5, p14, p15] [t3, t4, t5, t14, t15]) h =
 k2 (vBin .lss .other t15 t14 h) fun t16 h1 =>
 br t16
 (k2 (some (t15, h1)) fun t17 h2 =>
 k2 (some (t17, h2)) fun t6 h3 =>
 k2 (some (t5, h3)) fun t18 h4 =>
 k2 (bltV h4 .len [t18]) fun t19 h5 =>
 k2 (some ((.int .i64 0), h5)) fun t20 h6 =>
 lp X [p3, p4, p5, p6, p14, p15, p18, p19, p20] zg6 (kBlk 2 (kSeq X zg7 [p3, p4, p5, p6, p14, p15] (K_e_3 X))) [t3, t4, t5, t6, t14, t15, t18, t19, t20] h6)
 (sh X ziq (K_e_0 X) (setL [p4] [t4]) h1) := by kernel_rfl
theorem l_e_1 (F : FuncId → Option zr) (t3 t4 t5 t14 t15 : Value) (h : H) {r : Out} : let X := rI F; sh X zg8 (K_e_1 X) (setL [p3, p4, p5, p14, p15] [t3, t4, t5, t14, t15]) h = some r → lp X [p3, p4, p5, p14, p15] zg8 (kBlk 0 (kSeq X ziq [p4] (K_e_0 X))) [t3, t4, t5, t14, t15] h = some r := fun hv => zbe (by decide) hv
theorem s_e (X : Rn) (t0 : Value) (h : H) : zn X 1 f_e [t0] h =
 k2 (some (zi h (zj t0))) fun t1 h1 =>
 k2 (some ((.slice none 0 0), h1)) fun t2 h2 =>
 k2 (zh 3 t1 h2) fun t11 h3 =>
 k2 (X.call (.func (.func n_c) #[] #[]) [t11] h3) fun t12 h4 =>
 k2 (some (t12, h4)) fun t3 h5 =>
 k2 (some ((.slice none 0 0), h5)) fun t4 h6 =>
 k2 (some ((.slice none 0 0), h6)) fun t5 h7 =>
 k2 (zg 0 t1 h7) fun t13 h8 =>
 k2 (zc t13 h8) fun t14 h9 =>
 k2 (some ((.int .i64 0), h9)) fun t15 h10 =>
 lp X [p3, p4, p5, p14, p15] zg8 (kBlk 0 (kSeq X ziq [p4] (K_e_0 X))) [t3, t4, t5, t14, t15] h10 := by kernel_rfl
theorem s_A (X : Rn) (t0 t1 : Value) (h : H) : zn X 2 f_A [t0, t1] h =
 k2 (some (zi h (zj t0))) fun t2 h1 =>
 k2 (some (zi h1 (zj t1))) fun t3 h2 =>
 k2 (some (.nilFunc, h2)) fun t4 h3 =>
 k2 (some (.func (.func n_z) ⟨[]⟩ ⟨[t2, t3]⟩, h3)) fun t5 h4 =>
 k2 (some (t5, h4)) fun t4 h5 =>
 some (.val (ze [t4]) h5) := by kernel_rfl
theorem s_y (X : Rn) (t0 t1 : Value) (h : H) : zn X 2 f_y [t0, t1] h =
 k2 (some ((.bool false), h)) fun t4 h1 =>
 k2 (some (t0, h1)) fun t5 h2 =>
 k2 (some (t1, h2)) fun t6 h3 =>
 k2 (X.call (.func (.func n_j) #[] #[]) [t5, t6] h3) fun t7 h4 =>
 k2 (vBin .geq .other t7 (.int .i64 0) h4) fun t8 h5 =>
 k2 (some (t8, h5)) fun t4 h6 =>
 some (.val (ze [t4]) h6) := by kernel_rfl
theorem s_N (X : Rn) (t0 t1 : Value) (h : H) : zn X 2 f_N [t0, t1] h =
 k2 (some ((.slice none 0 0), h)) fun t4 h1 =>
 k2 (some (t0, h1)) fun t5 h2 =>
 k2 (some (t1, h2)) fun t6 h3 =>
 k2 (X.call (.func (.func n_S) #[] #[]) [t5, t6] h3) fun t7 h4 =>
 k2 (some (t0, h4)) fun t8 h5 =>
 k2 (X.call (.func (.func n_f) #[] #[]) [t8] h5) fun t9 h6 =>
 k2 (some (t9, h6)) fun t4 h7 =>
 some (.val (ze [t4]) h7) := by kernel_rfl
theorem s_C (X : Rn) (t0 t1 : Value) (h : H) : zn X 2 f_C [t0, t1] h =
 k2 (some ((.int .i64 0), h)) fun t4 h1 =>
 k2 (some (t0, h1)) fun t7 h2 =>
 k2 (X.call (.func (.func n_F) #[] #[]) [t7] h2) fun t8 h3 =>
 k2 (some (t8, h3)) fun t5 h4 =>
 k2 (some (t1, h4)) fun t9 h5 =>
 k2 (X.call (.func (.func n_F) #[] #[]) [t9] h5) fun t10 h6 =>
 k2 (some (t10, h6)) fun t6 h7 =>
 k2 (some (t5, h7)) fun t11 h8 =>
 br t11
 (k2 (some (t6, h8)) fun t12 h9 =>
 br t12
 (k2 (some ((.int .i64 0), h9)) fun t4 h10 =>
 some (.val (ze [t4]) h10))
 (k2 (some ((.int .i64 (-1)), h9)) fun t4 h11 =>
 some (.val (ze [t4]) h11)))
 (k2 (some (t6, h8)) fun t13 h12 =>
 br t13
 (k2 (some ((.int .i64 1), h12)) fun t4 h13 =>
 some (.val (ze [t4]) h13))
 (k2 (some (t0, h12)) fun t14 h14 =>
 k2 (some (t1, h14)) fun t15 h15 =>
 k2 (vBin .lss .other t14 t15 h15) fun t16 h16 =>
 br t16
 (k2 (some ((.int .i64 (-1)), h16)) fun t4 h17 =>
 some (.val (ze [t4]) h17))
 (k2 (some (t0, h16)) fun t17 h18 =>
 k2 (some (t1, h18)) fun t18 h19 =>
 k2 (vBin .gtr .other t17 t18 h19) fun t19 h20 =>
 br t19
 (k2 (some ((.int .i64 1), h20)) fun t4 h21 =>
 some (.val (ze [t4]) h21))
 (k2 (some ((.int .i64 0), h20)) fun t4 h22 =>
 some (.val (ze [t4]) h22))))) := by kernel_rfl
theorem s_l_0 (X : Rn) (t0 t1 t6 t7 : Value) (h : H) : sh X c_l_0 (K_l_0 X) (setL [p0, p1, p6, p7] [t0, t1, t6, t7]) h =
 k2 (some (t7, h)) fun t31 h1 =>
 k2 (some (t7, h1)) fun t32 h2 =>
 k2 (some (t6, h2)) fun t33 h3 =>
 k2 (vBin .lss .other t32 t33 h3) fun t34 h4 =>
 k2 (some (t34, h4)) fun t35 h5 =>
 k2 (gd t35 true h5 (some (t0, h5))) fun t36 h6 =>
 k2 (gd t35 true h6 (some (t7, h6))) fun t37 h7 =>
 k2 (gd t35 true h7 (zt 1 t36 t37 h7)) fun t38 h8 =>
 k2 (gd t35 true h8 (zc t38 h8)) fun t39 h9 =>
 k2 (gd t35 true h9 (some (t1, h9))) fun t40 h10 =>
 k2 (gd t35 true h10 (vBin .eql .other t39 t40 h10)) fun t41 h11 =>
 k2 (gd t35 true h11 (some (t41, h11))) fun t42 h12 =>
 k2 (gd t42 false h12 (some (t0, h12))) fun t43 h13 =>
 k2 (gd t42 false h13 (some (t7, h13))) fun t44 h14 =>
 k2 (gd t42 false h14 (zt 1 t43 t44 h14)) fun t45 h15 =>
 k2 (gd t42 false h15 (zc t45 h15)) fun t46 h16 =>
 k2 (gd t42 false h16 (X.call (.func (.func n_L) #[] #[]) [t46] h16)) fun t47 h17 =>
 k2 (gd t42 false h17 (some (t47, h17))) fun t48 h18 =>
 k2 (gd t48 true h18 (some (t1, h18))) fun t49 h19 =>
 k2 (gd t48 true h19 (X.call (.func (.func n_L) #[] #[]) [t49] h19)) fun t50 h20 =>
 k2 (gd t42 false h20 (zG t48 t50 (.bool false) h20)) fun t51 h21 =>
 k2 (gd t35 true h21 (zG t42 (.bool true) t51 h21)) fun t52 h22 =>
 k2 (zG t35 t52 (.bool false) h22) fun t53 h23 =>
 k2 (some (t31, h23)) fun t4 h24 =>
 k2 (some (t53, h24)) fun t5 h25 =>
 some (.val (ze [t4, t5]) h25) := by kernel_rfl
theorem s_l_1 (X : Rn) (t0 t1 t6 t7 t8 : Value) (h : H) : sh X c_l_1 (K_l_1 X) (setL [p0, p1, p6, p7, p8] [t0, t1, t6, t7, t8]) h =
 k2 (some (t7, h)) fun t13 h1 =>
 k2 (some (t8, h1)) fun t14 h2 =>
 k2 (vBin .lss .other t13 t14 h2) fun t15 h3 =>
 br t15
 (k2 (some (t7, h3)) fun t16 h4 =>
 k2 (some (t8, h4)) fun t17 h5 =>
 k2 (vBin .add .other t16 t17 h5) fun t18 h6 =>
 k2 (vConv .u64 t18 h6) fun t19 h7 =>
 k2 (vBin .shr .other t19 (.int .u64 1) h7) fun t20 h8 =>
 k2 (vConv .i64 t20 h8) fun t21 h9 =>
 k2 (some (t21, h9)) fun t9 h10 =>
 k2 (some (t0, h10)) fun t22 h11 =>
 k2 (some (t9, h11)) fun t23 h12 =>
 k2 (zt 1 t22 t23 h12) fun t24 h13 =>
 k2 (zc t24 h13) fun t25 h14 =>
 k2 (some (t1, h14)) fun t26 h15 =>
 k2 (X.call (.func (.func n_Q) #[] #[]) [t25, t26] h15) fun t27 h16 =>
 br t27
 (k2 (some (t9, h16)) fun t28 h17 =>
 k2 (vBin .add .other t28 (.int .i64 1) h17) fun t29 h18 =>
 k2 (some (t29, h18)) fun t7_19 h20 =>
 lp X [p0, p1, p6, p7, p8] c_l_1 (kBlk 0 (kSeq X c_l_0 [p0, p1, p6, p7] (K_l_0 X))) [t0, t1, t6, t7_19, t8] h20)
 (k2 (some (t9, h16)) fun t30 h21 =>
 k2 (some (t30, h21)) fun t8_22 h23 =>
 lp X [p0, p1, p6, p7, p8] c_l_1 (kBlk 0 (kSeq X c_l_0 [p0, p1, p6, p7] (K_l_0 X))) [t0, t1, t6, t7, t8_22] h23))
 (sh X c_l_0 (K_l_0 X) (setL [p0, p1, p6, p7] [t0, t1, t6, t7]) h3) := by kernel_rfl
theorem l_l_1 (F : FuncId → Option zr) (t0 t1 t6 t7 t8 : Value) (h : H) {r : Out} : let X := rI F; sh X c_l_1 (K_l_1 X) (setL [p0, p1, p6, p7, p8] [t0, t1, t6, t7, t8]) h = some r → lp X [p0, p1, p6, p7, p8] c_l_1 (kBlk 0 (kSeq X c_l_0 [p0, p1, p6, p7] (K_l_0 X))) [t0, t1, t6, t7, t8] h = some r := fun hv => zbe (by decide) hv
theorem s_l (X : Rn) (t0 t1 : Value) (h : H) : zn X 2 f_l [t0, t1] h =
 k2 (some ((.int .i64 0), h)) fun t4 h1 =>
 k2 (some ((.bool false), h1)) fun t5 h2 =>
 k2 (some (t0, h2)) fun t10 h3 =>
 k2 (bltV h3 .len [t10]) fun t11 h4 =>
 k2 (some (t11, h4)) fun t6 h5 =>
 k2 (some (t6, h5)) fun t12 h6 =>
 k2 (some ((.int .i64 0), h6)) fun t7 h7 =>
 k2 (some (t12, h7)) fun t8 h8 =>
 lp X [p0, p1, p6, p7, p8] c_l_1 (kBlk 0 (kSeq X c_l_0 [p0, p1, p6, p7] (K_l_0 X))) [t0, t1, t6, t7, t8] h8 := by kernel_rfl
theorem s_I (X : Rn) (t0 t1 : Value) (h : H) : zn X 2 f_I [t0, t1] h =
 k2 (some ((.slice none 0 0), h)) fun t4 h1 =>
 k2 (some (t0, h1)) fun t5 h2 =>
 k2 (some (t1, h2)) fun t6 h3 =>
 k2 (X.call (.func (.func n_O) #[] #[]) [t5, t6] h3) fun t7 h4 =>
 k2 (some (t0, h4)) fun t8 h5 =>
 k2 (X.call (.func (.func n_b) #[] #[]) [t8] h5) fun t9 h6 =>
 k2 (some (t9, h6)) fun t4 h7 =>
 some (.val (ze [t4]) h7) := by kernel_rfl
theorem s_v_0 (X : Rn) (t3 : Value) (h : H) : sh X zin (K_v_0 X) (setL [p3] [t3]) h =
 k2 (some (t3, h)) fun t17 h1 =>
 k2 (some (t17, h1)) fun t2 h2 =>
 some (.val (ze [t2]) h2) := by kernel_rfl
theorem s_v_1 (X : Rn) (t3 t6 t7 t8 : Value) (h : H) : sh X zim (K_v_1 X) (setL [p3, p6, p7, p8] [t3, t6, t7, t8]) h =
 k2 (vBin .lss .other t8 t7 h) fun t9 h1 =>
 br t9
 (k2 (zt 1 t6 t8 h1) fun t10 h2 =>
 k2 (zc t10 h2) fun t11 h3 =>
 k2 (some (t11, h3)) fun t5 h4 =>
 k2 (some (t5, h4)) fun t12 h5 =>
 k2 (some (t3, h5)) fun t13 h6 =>
 k2 (vBin .neq .other t12 t13 h6) fun t14 h7 =>
 br t14
 (k2 (some (t5, h7)) fun t15 h8 =>
 k2 (some (t15, h8)) fun t2 h9 =>
 some (.val (ze [t2]) h9))
 (k2 (vBin .add .other t8 (.int .i64 1) h7) fun t16 h10 =>
 k2 (some (t16, h10)) fun t8_11 h12 =>
 lp X [p3, p6, p7, p8] zim (kBlk 0 (kSeq X zin [p3] (K_v_0 X))) [t3, t6, t7, t8_11] h12))
 (sh X zin (K_v_0 X) (setL [p3] [t3]) h1) := by kernel_rfl
theorem l_v_1 (F : FuncId → Option zr) (t3 t6 t7 t8 : Value) (h : H) {r : Out} : let X := rI F; sh X zim (K_v_1 X) (setL [p3, p6, p7, p8] [t3, t6, t7, t8]) h = some r → lp X [p3, p6, p7, p8] zim (kBlk 0 (kSeq X zin [p3] (K_v_0 X))) [t3, t6, t7, t8] h = some r := fun hv => zbe (by decide) hv
theorem s_v (X : Rn) (t0 : Value) (h : H) : zn X 1 f_v [t0] h =
 k2 (some ((.int .i64 0), h)) fun t2 h1 =>
 k2 (some ((.int .i64 0), h1)) fun t3 h2 =>
 k2 (some (t0, h2)) fun t6 h3 =>
 k2 (bltV h3 .len [t6]) fun t7 h4 =>
 k2 (some ((.int .i64 0), h4)) fun t8 h5 =>
 lp X [p3, p6, p7, p8] zim (kBlk 0 (kSeq X zin [p3] (K_v_0 X))) [t3, t6, t7, t8] h5 := by kernel_rfl
theorem s_i_0 (X : Rn) (t10 t11 : Value) (h : H) : sh X c_i_0 (K_i_0 X) (setL [p10, p11] [t10, t11]) h =
 k2 ((zp [(.int .i64 0), (.int .i64 0), (.int .i64 0)] []).map fun c => (Value.agg ⟨c⟩, h)) fun t24 h1 =>
 k2 (zq 3 t10 t24 h1) fun _ h2 =>
 k2 (zq 1 t11 (.bool false) h2) fun _ h3 =>
 (vRes (some 3) t10 h3).bind fun r0 => (vRes none t11 h3).bind fun r1 => some (.val (ze [r0, r1]) h3) := by kernel_rfl
theorem s_i_1 (X : Rn) (l : Nat) (t5 t6 t8 t9 t10 t11 t16 : Value) (h : H) : zX X zdF l [t16] (setL [p5, p6, p8, p9, p10, p11] [t5, t6, t8, t9, t10, t11]) h =
 k2 (some (zi h [(.int .i64 0), (.int .i64 0), (.int .i64 0)])) fun t12 h1 =>
 k2 (zq 3 t12 t16 h1) fun _ h2 =>
 zfn l h2 fun h => sh X c_i_2 (K_i_2 X l) (setL [p5, p6, p8, p9, p10, p11, p12, p16] [t5, t6, t8, t9, t10, t11, t12, t16]) h := by kernel_rfl
theorem s_i_2 (X : Rn) (l : Nat) (t5 t6 t8 t9 t10 t11 t12 t16 : Value) (h : H) : sh X c_i_2 (K_i_2 X l) (setL [p5, p6, p8, p9, p10, p11, p12, p16] [t5, t6, t8, t9, t10, t11, t12, t16]) h =
 k2 (zc t5 h) fun t17 h1 =>
 k2 (zh 3 t6 h1) fun t18 h2 =>
 k2 (zh 3 t12 h2) fun t19 h3 =>
 k2 (zc t8 h3) fun t20 h4 =>
 k2 (zc t9 h4) fun t21 h5 =>
 k2 (X.call (.func (.func n_k) #[] #[]) [t17, t18, t19, t20, t21] h5) fun t22 h6 =>
 br t22
 (k2 (zh 3 t12 h6) fun t23 h7 =>
 k2 (zq 3 t10 t23 h7) fun _ h8 =>
 k2 (zq 1 t11 (.bool true) h8) fun _ h9 =>
 fin l (some .ret) h9)
 (fin l none h6) := by kernel_rfl
theorem s_i (X : Rn) (t0 t1 t2 t3 t4 : Value) (h : H) : zn X 5 f_i [t0, t1, t2, t3, t4] h =
 k2 (some (zi h (zj t0))) fun t5 h1 =>
 k2 (some (zi h1 (zj t1))) fun t6 h2 =>
 k2 (some (zi h2 (zj t3))) fun t8 h3 =>
 k2 (some (zi h3 (zj t4))) fun t9 h4 =>
 k2 (some (zi h4 [(.int .i64 0), (.int .i64 0), (.int .i64 0)])) fun t10 h5 =>
 k2 (some (zi h5 [(.bool false)])) fun t11 h6 =>
 k2 (zh 3 t6 h6) fun t13 h7 =>
 k2 (some (t2, h7)) fun t14 h8 =>
 k2 (X.call (.func (.func n_A) #[] #[]) [t13, t14] h8) fun t15 h9 =>
 (isFn t15).bind fun fv => k2 (X.call fv [.func (.yield h9.next) #[] #[]] (h9.new (.loop .ready none (setL [p5, p6, p8, p9, p10, p11] [t5, t6, t8, t9, t10, t11]) zdF))) fun _ h10 =>
 rgP h9.next h10 (fun h11 => sh X c_i_0 (K_i_0 X) (setL [p10, p11] [t10, t11]) h11) (fun i h11 => bx i 0 (sh X c_i_0 (K_i_0 X) (setL [p10, p11] [t10, t11]) h11) (none)) (fun h11 => (vRes (some 3) t10 h11).bind fun r0 => (vRes none t11 h11).bind fun r1 => some (.val (ze [r0, r1]) h11)) := by kernel_rfl
theorem s_B (X : Rn) (t0 t1 t2 : Value) (h : H) : zn X 3 f_B [t0, t1, t2] h =
 k2 (some (zi h (zj t0))) fun t3 h1 =>
 k2 (some (zi h1 (zj t1))) fun t4 h2 =>
 k2 (some (zi h2 (zj t2))) fun t5 h3 =>
 k2 (some (.nilFunc, h3)) fun t6 h4 =>
 k2 (some (.func (.func n_E) ⟨[]⟩ ⟨[t3, t4, t5]⟩, h4)) fun t7 h5 =>
 k2 (some (t7, h5)) fun t6 h6 =>
 some (.val (ze [t6]) h6) := by kernel_rfl
theorem s_m (X : Rn) (t0 : Value) (h : H) : zn X 1 f_m [t0] h =
 k2 (some ((.slice none 0 0), h)) fun t2 h1 =>
 k2 (some (t0, h1)) fun t3 h2 =>
 k2 (vBin .eql .slice t3 (.slice none 0 0) h2) fun t4 h3 =>
 br t4
 (k2 (some ((.slice none 0 0), h3)) fun t2 h4 =>
 some (.val (ze [t2]) h4))
 (k2 (zM 0 (zp (zl [(.int .i64 0), (.int .i64 0), (.int .i64 0)] 0) []) h3) fun t5 h5 =>
 k2 (some (t0, h5)) fun t6 h6 =>
 k2 (bltV h6 (.append 3 24) [t5, t6]) fun t7 h7 =>
 k2 (some (t7, h7)) fun t2 h8 =>
 some (.val (ze [t2]) h8)) := by kernel_rfl
theorem s_z_0 (X : Rn) (t0 t2 t18 t19 t20 : Value) (h : H) : sh X zil (K_z_0 X) (setL [p0, p2, p18, p19, p20] [t0, t2, t18, t19, t20]) h =
 k2 (vBin .lss .other t20 t19 h) fun t21 h1 =>
 br t21
 (k2 (zt 3 t18 t20 h1) fun t22 h2 =>
 k2 (zh 3 t22 h2) fun t23 h3 =>
 k2 (some (zi h3 [(.int .i64 0), (.int .i64 0), (.int .i64 0)])) fun t7 h4 =>
 k2 (zq 3 t7 t23 h4) fun _ h5 =>
 k2 (zg 0 t7 h5) fun t24 h6 =>
 k2 (zc t24 h6) fun t25 h7 =>
 k2 (zc t2 h7) fun t26 h8 =>
 k2 (vBin .neq .other t25 t26 h8) fun t27 h9 =>
 k2 (some (t27, h9)) fun t28 h10 =>
 k2 (gd t28 false h10 (some (t0, h10))) fun t29 h11 =>
 k2 (gd t28 false h11 (zh 3 t7 h11)) fun t30 h12 =>
 k2 (gd t28 false h12 (X.call t29 [t30] h12)) fun t31 h13 =>
 k2 (gd t28 false h13 (vUn .not t31 h13)) fun t32 h14 =>
 k2 (zG t28 (.bool true) t32 h14) fun t33 h15 =>
 br t33
 (some (.val (ze []) h15))
 (k2 (vBin .add .other t20 (.int .i64 1) h15) fun t34 h16 =>
 k2 (some (t34, h16)) fun t20_17 h18 =>
 lp X [p0, p2, p18, p19, p20] zil (kBlk 0 (fnK [])) [t0, t2, t18, t19, t20_17] h18))
 (some (.val (ze []) h1)) := by kernel_rfl
theorem l_z_0 (F : FuncId → Option zr) (t0 t2 t18 t19 t20 : Value) (h : H) {r : Out} : let X := rI F; sh X zil (K_z_0 X) (setL [p0, p2, p18, p19, p20] [t0, t2, t18, t19, t20]) h = some r → lp X [p0, p2, p18, p19, p20] zil (kBlk 0 (fnK [])) [t0, t2, t18, t19, t20] h = some r := fun hv => zbe (by decide) hv
theorem s_z (X : Rn) (t0 t1 t2 : Value) (h : H) : zn X 3 f_z [t0, t1, t2] h =
 k2 (zg 2 t1 h) fun t9 h1 =>
 k2 (zc t9 h1) fun t10 h2 =>
 k2 (zc t2 h2) fun t11 h3 =>
 k2 (X.call (.func (.func n_a) #[] #[]) [t10, t11, (.func (.func n_T) #[] #[])] h3) fun t12 h4 =>
 k2 (some (t12, h4)) fun t8 h5 =>
 k2 (zm 0 t8 h5) fun t13 h6 =>
 k2 (zm 1 t8 h6) fun t14 h7 =>
 k2 (some (t13, h7)) fun t4 h8 =>
 k2 (some (t14, h8)) fun t5 h9 =>
 k2 (zg 2 t1 h9) fun t15 h10 =>
 k2 (zc t15 h10) fun t16 h11 =>
 k2 (some (t4, h11)) fun t17 h12 =>
 k2 (zbk 3 h12 (some t17) none t16) fun t18 h13 =>
 k2 (bltV h13 .len [t18]) fun t19 h14 =>
 k2 (some ((.int .i64 0), h14)) fun t20 h15 =>
 lp X [p0, p2, p18, p19, p20] zil (kBlk 0 (fnK [])) [t0, t2, t18, t19, t20] h15 := by kernel_rfl
theorem s_a_0 (X : Rn) (t0 t1 t2 t8 t9 : Value) (h : H) : sh X zhe (K_a_0 X) (setL [p0, p1, p2, p8, p9] [t0, t1, t2, t8, t9]) h =
 k2 (some (t9, h)) fun t35 h1 =>
 k2 (some (t9, h1)) fun t36 h2 =>
 k2 (some (t8, h2)) fun t37 h3 =>
 k2 (vBin .lss .other t36 t37 h3) fun t38 h4 =>
 k2 (some (t38, h4)) fun t39 h5 =>
 k2 (gd t39 true h5 (some (t2, h5))) fun t40 h6 =>
 k2 (gd t39 true h6 (some (t0, h6))) fun t41 h7 =>
 k2 (gd t39 true h7 (some (t9, h7))) fun t42 h8 =>
 k2 (gd t39 true h8 (zt 3 t41 t42 h8)) fun t43 h9 =>
 k2 (gd t39 true h9 (zh 3 t43 h9)) fun t44 h10 =>
 k2 (gd t39 true h10 (some (t1, h10))) fun t45 h11 =>
 k2 (gd t39 true h11 (X.call t40 [t44, t45] h11)) fun t46 h12 =>
 k2 (gd t39 true h12 (vBin .eql .other t46 (.int .i64 0) h12)) fun t47 h13 =>
 k2 (zG t39 t47 (.bool false) h13) fun t48 h14 =>
 k2 (some (t35, h14)) fun t6 h15 =>
 k2 (some (t48, h15)) fun t7 h16 =>
 some (.val (ze [t6, t7]) h16) := by kernel_rfl
theorem s_a_1 (X : Rn) (t0 t1 t2 t8 t9 t10 : Value) (h : H) : sh X zgu (K_a_1 X) (setL [p0, p1, p2, p8, p9, p10] [t0, t1, t2, t8, t9, t10]) h =
 k2 (some (t9, h)) fun t15 h1 =>
 k2 (some (t10, h1)) fun t16 h2 =>
 k2 (vBin .lss .other t15 t16 h2) fun t17 h3 =>
 br t17
 (k2 (some (t9, h3)) fun t18 h4 =>
 k2 (some (t10, h4)) fun t19 h5 =>
 k2 (vBin .add .other t18 t19 h5) fun t20 h6 =>
 k2 (vConv .u64 t20 h6) fun t21 h7 =>
 k2 (vBin .shr .other t21 (.int .u64 1) h7) fun t22 h8 =>
 k2 (vConv .i64 t22 h8) fun t23 h9 =>
 k2 (some (t23, h9)) fun t11 h10 =>
 k2 (some (t2, h10)) fun t24 h11 =>
 k2 (some (t0, h11)) fun t25 h12 =>
 k2 (some (t11, h12)) fun t26 h13 =>
 k2 (zt 3 t25 t26 h13) fun t27 h14 =>
 k2 (zh 3 t27 h14) fun t28 h15 =>
 k2 (some (t1, h15)) fun t29 h16 =>
 k2 (X.call t24 [t28, t29] h16) fun t30 h17 =>
 k2 (vBin .lss .other t30 (.int .i64 0) h17) fun t31 h18 =>
 br t31
 (k2 (some (t11, h18)) fun t32 h19 =>
 k2 (vBin .add .other t32 (.int .i64 1) h19) fun t33 h20 =>
 k2 (some (t33, h20)) fun t9_21 h22 =>
 lp X [p0, p1, p2, p8, p9, p10] zgu (kBlk 0 (kSeq X zhe [p0, p1, p2, p8, p9] (K_a_0 X))) [t0, t1, t2, t8, t9_21, t10] h22)
 (k2 (some (t11, h18)) fun t34 h23 =>
 k2 (some (t34, h23)) fun t10_24 h25 =>
 lp X [p0, p1, p2, p8, p9, p10] zgu (kBlk 0 (kSeq X zhe [p0, p1, p2, p8, p9] (K_a_0 X))) [t0, t1, t2, t8, t9, t10_24] h25))
 (sh X zhe (K_a_0 X) (setL [p0, p1, p2, p8, p9] [t0, t1, t2, t8, t9]) h3) := by kernel_rfl
theorem l_a_1 (F : FuncId → Option zr) (t0 t1 t2 t8 t9 t10 : Value) (h : H) {r : Out} : let X := rI F; sh X zgu (K_a_1 X) (setL [p0, p1, p2, p8, p9, p10] [t0, t1, t2, t8, t9, t10]) h = some r → lp X [p0, p1, p2, p8, p9, p10] zgu (kBlk 0 (kSeq X zhe [p0, p1, p2, p8, p9] (K_a_0 X))) [t0, t1, t2, t8, t9, t10] h = some r := fun hv => zbe (by decide) hv
theorem s_a (X : Rn) (t0 t1 t2 : Value) (h : H) : zn X 3 f_a [t0, t1, t2] h =
 k2 (some ((.int .i64 0), h)) fun t6 h1 =>
 k2 (some ((.bool false), h1)) fun t7 h2 =>
 k2 (some (t0, h2)) fun t12 h3 =>
 k2 (bltV h3 .len [t12]) fun t13 h4 =>
 k2 (some (t13, h4)) fun t8 h5 =>
 k2 (some (t8, h5)) fun t14 h6 =>
 k2 (some ((.int .i64 0), h6)) fun t9 h7 =>
 k2 (some (t14, h7)) fun t10 h8 =>
 lp X [p0, p1, p2, p8, p9, p10] zgu (kBlk 0 (kSeq X zhe [p0, p1, p2, p8, p9] (K_a_0 X))) [t0, t1, t2, t8, t9, t10] h8 := by kernel_rfl
theorem s_T (X : Rn) (t0 t1 : Value) (h : H) : zn X 2 f_T [t0, t1] h =
 k2 (some (zi h (zj t0))) fun t2 h1 =>
 k2 (some ((.int .i64 0), h1)) fun t4 h2 =>
 k2 (zg 0 t2 h2) fun t5 h3 =>
 k2 (zc t5 h3) fun t6 h4 =>
 k2 (some (t1, h4)) fun t7 h5 =>
 k2 (X.call (.func (.func n_C) #[] #[]) [t6, t7] h5) fun t8 h6 =>
 k2 (some (t8, h6)) fun t4 h7 =>
 some (.val (ze [t4]) h7) := by kernel_rfl
theorem s_j_0 (X : Rn) (h : H) : sh X zio (K_j_0 X) (setL [] []) h =
 k2 (some ((.int .i64 (-1)), h)) fun t4 h1 =>
 some (.val (ze [t4]) h1) := by kernel_rfl
theorem s_j_1 (X : Rn) (t0 t1 t7 t8 : Value) (h : H) : sh X zg3 (K_j_1 X) (setL [p0, p1, p7, p8] [t0, t1, t7, t8]) h =
 k2 (vBin .lss .other t8 t7 h) fun t9 h1 =>
 br t9
 (k2 (some (t8, h1)) fun t10 h2 =>
 k2 (some (t10, h2)) fun t5 h3 =>
 k2 (some (t1, h3)) fun t11 h4 =>
 k2 (some (t0, h4)) fun t12 h5 =>
 k2 (some (t5, h5)) fun t13 h6 =>
 k2 (zt 1 t12 t13 h6) fun t14 h7 =>
 k2 (zc t14 h7) fun t15 h8 =>
 k2 (vBin .eql .other t11 t15 h8) fun t16 h9 =>
 br t16
 (k2 (some (t5, h9)) fun t17 h10 =>
 k2 (some (t17, h10)) fun t4 h11 =>
 some (.val (ze [t4]) h11))
 (k2 (vBin .add .other t8 (.int .i64 1) h9) fun t18 h12 =>
 k2 (some (t18, h12)) fun t8_13 h14 =>
 lp X [p0, p1, p7, p8] zg3 (kBlk 0 (kSeq X zio [] (K_j_0 X))) [t0, t1, t7, t8_13] h14))
 (sh X zio (K_j_0 X) (setL [] []) h1) := by kernel_rfl
theorem l_j_1 (F : FuncId → Option zr) (t0 t1 t7 t8 : Value) (h : H) {r : Out} : let X := rI F; sh X zg3 (K_j_1 X) (setL [p0, p1, p7, p8] [t0, t1, t7, t8]) h = some r → lp X [p0, p1, p7, p8] zg3 (kBlk 0 (kSeq X zio [] (K_j_0 X))) [t0, t1, t7, t8] h = some r := fun hv => zbe (by decide) hv
theorem s_j (X : Rn) (t0 t1 : Value) (h : H) : zn X 2 f_j [t0, t1] h =
 k2 (some ((.int .i64 0), h)) fun t4 h1 =>
 k2 (some (t0, h1)) fun t6 h2 =>
 k2 (bltV h2 .len [t6]) fun t7 h3 =>
 k2 (some ((.int .i64 0), h3)) fun t8 h4 =>
 lp X [p0, p1, p7, p8] zg3 (kBlk 0 (kSeq X zio [] (K_j_0 X))) [t0, t1, t7, t8] h4 := by kernel_rfl
theorem s_f_0 (X : Rn) (t0 : Value) (h : H) : sh X c_f_0 (K_f_0 X) (setL [p0] [t0]) h =
 k2 (some (t0, h)) fun t60 h1 =>
 k2 (some (t60, h1)) fun t2 h2 =>
 some (.val (ze [t2]) h2) := by kernel_rfl
theorem s_f_2 (X : Rn) (t0 t3 : Value) (h : H) : sh X c_f_2 (K_f_2 X) (setL [p0, p3] [t0, t3]) h =
 k2 (some (t3, h)) fun t14 h1 =>
 k2 (vBin .add .other t14 (.int .i64 1) h1) fun t15 h2 =>
 k2 (some (t15, h2)) fun t3_3 h4 =>
 lp X [p0, p3] c_f_1 (kBlk 0 (kSeq X c_f_0 [p0] (K_f_0 X))) [t0, t3_3] h4 := by kernel_rfl
theorem s_f_3 (X : Rn) (t0 t3 : Value) (h : H) : sh X c_f_3 (K_f_3 X) (setL [p0, p3] [t0, t3]) h =
 k2 (some (t0, h)) fun t54 h1 =>
 k2 (some (t3, h1)) fun t55 h2 =>
 k2 (zbk 1 h2 (some t55) none t54) fun t56 h3 =>
 k2 (bltV h3 (.clear [(.int .i64 0)]) [t56]) fun _ h4 =>
 k2 (some (t0, h4)) fun t57 h5 =>
 k2 (some (t3, h5)) fun t58 h6 =>
 k2 (zbk 1 h6 none (some t58) t57) fun t59 h7 =>
 k2 (some (t59, h7)) fun t2 h8 =>
 some (.val (ze [t2]) h8) := by kernel_rfl
theorem s_f_5 (X : Rn) (t0 t3 t4 t5 : Value) (h : H) : sh X c_f_5 (K_f_5 X) (setL [p0, p3, p4, p5] [t0, t3, t4, t5]) h =
 k2 (some (t5, h)) fun t33 h1 =>
 k2 (vBin .add .other t33 (.int .i64 1) h1) fun t34 h2 =>
 k2 (some (t34, h2)) fun t5_3 h4 =>
 lp X [p0, p3, p4, p5] c_f_4 (kBlk 2 (kSeq X c_f_3 [p0, p3] (K_f_3 X))) [t0, t3, t4, t5_3] h4 := by kernel_rfl
theorem s_f_4 (X : Rn) (t0 t3 t4 t5 : Value) (h : H) : sh X c_f_4 (K_f_4 X) (setL [p0, p3, p4, p5] [t0, t3, t4, t5]) h =
 k2 (some (t5, h)) fun t29 h1 =>
 k2 (some (t4, h1)) fun t30 h2 =>
 k2 (bltV h2 .len [t30]) fun t31 h3 =>
 k2 (vBin .lss .other t29 t31 h3) fun t32 h4 =>
 br t32
 (k2 (some (t4, h4)) fun t35 h5 =>
 k2 (some (t5, h5)) fun t36 h6 =>
 k2 (zt 1 t35 t36 h6) fun t37 h7 =>
 k2 (rdF (fun b => zc t37 b) 0 h7 [(0, h4)]) fun t38 h8 =>
 k2 (some (t4, h8)) fun t39 h9 =>
 k2 (some (t5, h9)) fun t40 h10 =>
 k2 (vBin .sub .other t40 (.int .i64 1) h10) fun t41 h11 =>
 k2 (zt 1 t39 t41 h11) fun t42 h12 =>
 k2 (rdF (fun b => zc t42 b) 0 h12 [(0, h4)]) fun t43 h13 =>
 k2 (vBin .neq .other t38 t43 h13) fun t44 h14 =>
 br t44
 (k2 (some (t0, h14)) fun t45 h15 =>
 k2 (some (t3, h15)) fun t46 h16 =>
 k2 (some (t4, h16)) fun t47 h17 =>
 k2 (some (t5, h17)) fun t48 h18 =>
 k2 (zt 1 t47 t48 h18) fun t49 h19 =>
 k2 (zc t49 h19) fun t50 h20 =>
 k2 (zt 1 t45 t46 h20) fun t51 h21 =>
 k2 (zq 1 t51 t50 h21) fun _ h22 =>
 k2 (some (t3, h22)) fun t52 h23 =>
 k2 (vBin .add .other t52 (.int .i64 1) h23) fun t53 h24 =>
 k2 (some (t53, h24)) fun t3_25 h26 =>
 sh X c_f_5 (K_f_5 X) (setL [p0, p3, p4, p5] [t0, t3_25, t4, t5]) h26)
 (sh X c_f_5 (K_f_5 X) (setL [p0, p3, p4, p5] [t0, t3, t4, t5]) h14))
 (sh X c_f_3 (K_f_3 X) (setL [p0, p3] [t0, t3]) h4) := by kernel_rfl
theorem l_f_4 (F : FuncId → Option zr) (t0 t3 t4 t5 : Value) (h : H) {r : Out} : let X := rI F; sh X c_f_4 (K_f_4 X) (setL [p0, p3, p4, p5] [t0, t3, t4, t5]) h = some r → lp X [p0, p3, p4, p5] c_f_4 (kBlk 2 (kSeq X c_f_3 [p0, p3] (K_f_3 X))) [t0, t3, t4, t5] h = some r := fun hv => zbe (by decide) hv
theorem s_f_1 (X : Rn) (t0 t3 : Value) (h : H) : sh X c_f_1 (K_f_1 X) (setL [p0, p3] [t0, t3]) h =
 k2 (some (t3, h)) fun t10 h1 =>
 k2 (some (t0, h1)) fun t11 h2 =>
 k2 (bltV h2 .len [t11]) fun t12 h3 =>
 k2 (vBin .lss .other t10 t12 h3) fun t13 h4 =>
 br t13
 (k2 (some (t0, h4)) fun t16 h5 =>
 k2 (some (t3, h5)) fun t17 h6 =>
 k2 (zt 1 t16 t17 h6) fun t18 h7 =>
 k2 (rdF (fun b => zc t18 b) 0 h7 [(0, h4)]) fun t19 h8 =>
 k2 (some (t0, h8)) fun t20 h9 =>
 k2 (some (t3, h9)) fun t21 h10 =>
 k2 (vBin .sub .other t21 (.int .i64 1) h10) fun t22 h11 =>
 k2 (zt 1 t20 t22 h11) fun t23 h12 =>
 k2 (rdF (fun b => zc t23 b) 0 h12 [(0, h4)]) fun t24 h13 =>
 k2 (vBin .eql .other t19 t24 h13) fun t25 h14 =>
 br t25
 (k2 (some (t0, h14)) fun t26 h15 =>
 k2 (some (t3, h15)) fun t27 h16 =>
 k2 (zbk 1 h16 (some t27) none t26) fun t28 h17 =>
 k2 (some (t28, h17)) fun t4 h18 =>
 k2 (some ((.int .i64 1), h18)) fun t5 h19 =>
 lp X [p0, p3, p4, p5] c_f_4 (kBlk 2 (kSeq X c_f_3 [p0, p3] (K_f_3 X))) [t0, t3, t4, t5] h19)
 (sh X c_f_2 (K_f_2 X) (setL [p0, p3] [t0, t3]) h14))
 (sh X c_f_0 (K_f_0 X) (setL [p0] [t0]) h4) := by kernel_rfl
theorem l_f_1 (F : FuncId → Option zr) (t0 t3 : Value) (h : H) {r : Out} : let X := rI F; sh X c_f_1 (K_f_1 X) (setL [p0, p3] [t0, t3]) h = some r → lp X [p0, p3] c_f_1 (kBlk 0 (kSeq X c_f_0 [p0] (K_f_0 X))) [t0, t3] h = some r := fun hv => zbe (by decide) hv
theorem s_f (X : Rn) (t0 : Value) (h : H) : zn X 1 f_f [t0] h =
 k2 (some ((.slice none 0 0), h)) fun t2 h1 =>
 k2 (some (t0, h1)) fun t6 h2 =>
 k2 (bltV h2 .len [t6]) fun t7 h3 =>
 k2 (vBin .lss .other t7 (.int .i64 2) h3) fun t8 h4 =>
 br t8
 (k2 (some (t0, h4)) fun t9 h5 =>
 k2 (some (t9, h5)) fun t2 h6 =>
 some (.val (ze [t2]) h6))
 (k2 (some ((.int .i64 1), h4)) fun t3 h7 =>
 lp X [p0, p3] c_f_1 (kBlk 0 (kSeq X c_f_0 [p0] (K_f_0 X))) [t0, t3] h7) := by kernel_rfl
theorem s_F (X : Rn) (t0 : Value) (h : H) : zn X 1 f_F [t0] h =
 k2 (some ((.bool false), h)) fun t2 h1 =>
 k2 (some (t0, h1)) fun t3 h2 =>
 k2 (some (t0, h2)) fun t4 h3 =>
 k2 (vBin .neq .other t3 t4 h3) fun t5 h4 =>
 k2 (some (t5, h4)) fun t2 h5 =>
 some (.val (ze [t2]) h5) := by kernel_rfl
theorem s_Q (X : Rn) (t0 t1 : Value) (h : H) : zn X 2 f_Q [t0, t1] h =
 k2 (some ((.bool false), h)) fun t4 h1 =>
 k2 (some (t0, h1)) fun t5 h2 =>
 k2 (X.call (.func (.func n_F) #[] #[]) [t5] h2) fun t6 h3 =>
 k2 (some (t6, h3)) fun t7 h4 =>
 k2 (gd t7 true h4 (some (t1, h4))) fun t8 h5 =>
 k2 (gd t7 true h5 (X.call (.func (.func n_F) #[] #[]) [t8] h5)) fun t9 h6 =>
 k2 (gd t7 true h6 (vUn .not t9 h6)) fun t10 h7 =>
 k2 (zG t7 t10 (.bool false) h7) fun t11 h8 =>
 k2 (some (t11, h8)) fun t12 h9 =>
 k2 (gd t12 false h9 (some (t0, h9))) fun t13 h10 =>
 k2 (gd t12 false h10 (some (t1, h10))) fun t14 h11 =>
 k2 (gd t12 false h11 (vBin .lss .other t13 t14 h11)) fun t15 h12 =>
 k2 (zG t12 (.bool true) t15 h12) fun t16 h13 =>
 k2 (some (t16, h13)) fun t4 h14 =>
 some (.val (ze [t4]) h14) := by kernel_rfl
theorem s_L (X : Rn) (t0 : Value) (h : H) : zn X 1 f_L [t0] h =
 k2 (some ((.bool false), h)) fun t2 h1 =>
 k2 (some (t0, h1)) fun t3 h2 =>
 k2 (some (t0, h2)) fun t4 h3 =>
 k2 (vBin .neq .other t3 t4 h3) fun t5 h4 =>
 k2 (some (t5, h4)) fun t2 h5 =>
 some (.val (ze [t2]) h5) := by kernel_rfl
theorem s_b_0 (X : Rn) (t0 : Value) (h : H) : sh X c_b_0 (K_b_0 X) (setL [p0] [t0]) h =
 k2 (some (t0, h)) fun t60 h1 =>
 k2 (some (t60, h1)) fun t2 h2 =>
 some (.val (ze [t2]) h2) := by kernel_rfl
theorem s_b_2 (X : Rn) (t0 t3 : Value) (h : H) : sh X c_b_2 (K_b_2 X) (setL [p0, p3] [t0, t3]) h =
 k2 (some (t3, h)) fun t14 h1 =>
 k2 (vBin .add .other t14 (.int .i64 1) h1) fun t15 h2 =>
 k2 (some (t15, h2)) fun t3_3 h4 =>
 lp X [p0, p3] c_b_1 (kBlk 0 (kSeq X c_b_0 [p0] (K_b_0 X))) [t0, t3_3] h4 := by kernel_rfl
theorem s_b_3 (X : Rn) (t0 t3 : Value) (h : H) : sh X c_b_3 (K_b_3 X) (setL [p0, p3] [t0, t3]) h =
 k2 (some (t0, h)) fun t54 h1 =>
 k2 (some (t3, h1)) fun t55 h2 =>
 k2 (zbk 3 h2 (some t55) none t54) fun t56 h3 =>
 k2 (bltV h3 (.clear [(.int .i64 0), (.int .i64 0), (.int .i64 0)]) [t56]) fun _ h4 =>
 k2 (some (t0, h4)) fun t57 h5 =>
 k2 (some (t3, h5)) fun t58 h6 =>
 k2 (zbk 3 h6 none (some t58) t57) fun t59 h7 =>
 k2 (some (t59, h7)) fun t2 h8 =>
 some (.val (ze [t2]) h8) := by kernel_rfl
theorem s_b_5 (X : Rn) (t0 t3 t4 t5 : Value) (h : H) : sh X c_b_5 (K_b_5 X) (setL [p0, p3, p4, p5] [t0, t3, t4, t5]) h =
 k2 (some (t5, h)) fun t33 h1 =>
 k2 (vBin .add .other t33 (.int .i64 1) h1) fun t34 h2 =>
 k2 (some (t34, h2)) fun t5_3 h4 =>
 lp X [p0, p3, p4, p5] c_b_4 (kBlk 2 (kSeq X c_b_3 [p0, p3] (K_b_3 X))) [t0, t3, t4, t5_3] h4 := by kernel_rfl
theorem s_b_4 (X : Rn) (t0 t3 t4 t5 : Value) (h : H) : sh X c_b_4 (K_b_4 X) (setL [p0, p3, p4, p5] [t0, t3, t4, t5]) h =
 k2 (some (t5, h)) fun t29 h1 =>
 k2 (some (t4, h1)) fun t30 h2 =>
 k2 (bltV h2 .len [t30]) fun t31 h3 =>
 k2 (vBin .lss .other t29 t31 h3) fun t32 h4 =>
 br t32
 (k2 (some (t4, h4)) fun t35 h5 =>
 k2 (some (t5, h5)) fun t36 h6 =>
 k2 (zt 3 t35 t36 h6) fun t37 h7 =>
 k2 (rdF (fun b => zh 3 t37 b) 0 h7 [(0, h4)]) fun t38 h8 =>
 k2 (some (t4, h8)) fun t39 h9 =>
 k2 (some (t5, h9)) fun t40 h10 =>
 k2 (vBin .sub .other t40 (.int .i64 1) h10) fun t41 h11 =>
 k2 (zt 3 t39 t41 h11) fun t42 h12 =>
 k2 (rdF (fun b => zh 3 t42 b) 0 h12 [(0, h4)]) fun t43 h13 =>
 k2 (vBin .neq (.leaves [0, 1, 2]) t38 t43 h13) fun t44 h14 =>
 br t44
 (k2 (some (t0, h14)) fun t45 h15 =>
 k2 (some (t3, h15)) fun t46 h16 =>
 k2 (some (t4, h16)) fun t47 h17 =>
 k2 (some (t5, h17)) fun t48 h18 =>
 k2 (zt 3 t47 t48 h18) fun t49 h19 =>
 k2 (zh 3 t49 h19) fun t50 h20 =>
 k2 (zt 3 t45 t46 h20) fun t51 h21 =>
 k2 (zq 3 t51 t50 h21) fun _ h22 =>
 k2 (some (t3, h22)) fun t52 h23 =>
 k2 (vBin .add .other t52 (.int .i64 1) h23) fun t53 h24 =>
 k2 (some (t53, h24)) fun t3_25 h26 =>
 sh X c_b_5 (K_b_5 X) (setL [p0, p3, p4, p5] [t0, t3_25, t4, t5]) h26)
 (sh X c_b_5 (K_b_5 X) (setL [p0, p3, p4, p5] [t0, t3, t4, t5]) h14))
 (sh X c_b_3 (K_b_3 X) (setL [p0, p3] [t0, t3]) h4) := by kernel_rfl
theorem l_b_4 (F : FuncId → Option zr) (t0 t3 t4 t5 : Value) (h : H) {r : Out} : let X := rI F; sh X c_b_4 (K_b_4 X) (setL [p0, p3, p4, p5] [t0, t3, t4, t5]) h = some r → lp X [p0, p3, p4, p5] c_b_4 (kBlk 2 (kSeq X c_b_3 [p0, p3] (K_b_3 X))) [t0, t3, t4, t5] h = some r := fun hv => zbe (by decide) hv
theorem s_b_1 (X : Rn) (t0 t3 : Value) (h : H) : sh X c_b_1 (K_b_1 X) (setL [p0, p3] [t0, t3]) h =
 k2 (some (t3, h)) fun t10 h1 =>
 k2 (some (t0, h1)) fun t11 h2 =>
 k2 (bltV h2 .len [t11]) fun t12 h3 =>
 k2 (vBin .lss .other t10 t12 h3) fun t13 h4 =>
 br t13
 (k2 (some (t0, h4)) fun t16 h5 =>
 k2 (some (t3, h5)) fun t17 h6 =>
 k2 (zt 3 t16 t17 h6) fun t18 h7 =>
 k2 (rdF (fun b => zh 3 t18 b) 0 h7 [(0, h4)]) fun t19 h8 =>
 k2 (some (t0, h8)) fun t20 h9 =>
 k2 (some (t3, h9)) fun t21 h10 =>
 k2 (vBin .sub .other t21 (.int .i64 1) h10) fun t22 h11 =>
 k2 (zt 3 t20 t22 h11) fun t23 h12 =>
 k2 (rdF (fun b => zh 3 t23 b) 0 h12 [(0, h4)]) fun t24 h13 =>
 k2 (vBin .eql (.leaves [0, 1, 2]) t19 t24 h13) fun t25 h14 =>
 br t25
 (k2 (some (t0, h14)) fun t26 h15 =>
 k2 (some (t3, h15)) fun t27 h16 =>
 k2 (zbk 3 h16 (some t27) none t26) fun t28 h17 =>
 k2 (some (t28, h17)) fun t4 h18 =>
 k2 (some ((.int .i64 1), h18)) fun t5 h19 =>
 lp X [p0, p3, p4, p5] c_b_4 (kBlk 2 (kSeq X c_b_3 [p0, p3] (K_b_3 X))) [t0, t3, t4, t5] h19)
 (sh X c_b_2 (K_b_2 X) (setL [p0, p3] [t0, t3]) h14))
 (sh X c_b_0 (K_b_0 X) (setL [p0] [t0]) h4) := by kernel_rfl
theorem l_b_1 (F : FuncId → Option zr) (t0 t3 : Value) (h : H) {r : Out} : let X := rI F; sh X c_b_1 (K_b_1 X) (setL [p0, p3] [t0, t3]) h = some r → lp X [p0, p3] c_b_1 (kBlk 0 (kSeq X c_b_0 [p0] (K_b_0 X))) [t0, t3] h = some r := fun hv => zbe (by decide) hv
theorem s_b (X : Rn) (t0 : Value) (h : H) : zn X 1 f_b [t0] h =
 k2 (some ((.slice none 0 0), h)) fun t2 h1 =>
 k2 (some (t0, h1)) fun t6 h2 =>
 k2 (bltV h2 .len [t6]) fun t7 h3 =>
 k2 (vBin .lss .other t7 (.int .i64 2) h3) fun t8 h4 =>
 br t8
 (k2 (some (t0, h4)) fun t9 h5 =>
 k2 (some (t9, h5)) fun t2 h6 =>
 some (.val (ze [t2]) h6))
 (k2 (some ((.int .i64 1), h4)) fun t3 h7 =>
 lp X [p0, p3] c_b_1 (kBlk 0 (kSeq X c_b_0 [p0] (K_b_0 X))) [t0, t3] h7) := by kernel_rfl
theorem s_k_0 (X : Rn) (t10 : Value) (h : H) : sh X c_k_0 (K_k_0 X) (setL [p10] [t10]) h =
 k2 (zq 1 t10 (.bool true) h) fun _ h1 =>
 (vRes none t10 h1).bind fun r0 => some (.val (ze [r0]) h1) := by kernel_rfl
theorem s_k_1 (X : Rn) (l : Nat) (t5 t7 t9 t10 t20 : Value) (h : H) : zX X zdj l [t20] (setL [p5, p7, p9, p10] [t5, t7, t9, t10]) h =
 k2 (some (t20, h)) fun t11 h1 =>
 zfn l h1 fun h => sh X c_k_2 (K_k_2 X l) (setL [p5, p7, p9, p10, p11, p20] [t5, t7, t9, t10, t11, t20]) h := by kernel_rfl
theorem s_k_2 (X : Rn) (l : Nat) (t5 t7 t9 t10 t11 t20 : Value) (h : H) : sh X c_k_2 (K_k_2 X l) (setL [p5, p7, p9, p10, p11, p20] [t5, t7, t9, t10, t11, t20]) h =
 k2 (zg 1 t7 h) fun t21 h1 =>
 k2 (zc t21 h1) fun t22 h2 =>
 k2 (some (t11, h2)) fun t23 h3 =>
 k2 ((zp [(.int .i64 0), (.int .i64 0)] [(0, 1, t22), (1, 1, t23)]).map fun c => (Value.agg ⟨c⟩, h3)) fun t24 h4 =>
 k2 (some (zi h4 [(.int .i64 0), (.int .i64 0)])) fun t12 h5 =>
 k2 (zq 2 t12 t24 h5) fun _ h6 =>
 k2 (zc t5 h6) fun t26 h7 =>
 k2 (zh 2 t12 h7) fun t27 h8 =>
 k2 (zb0 (.leaves [0, 1]) (.int .i64 0) true t26 t27 h8) fun t28 h9 =>
 k2 (some (t28, h9)) fun t25 h10 =>
 k2 (zm 0 t25 h10) fun t29 h11 =>
 k2 (zm 1 t25 h11) fun t30 h12 =>
 k2 (some (t29, h12)) fun t13 h13 =>
 k2 (some (t30, h13)) fun t14 h14 =>
 k2 (zh 2 t12 h14) fun t31 h15 =>
 k2 (some (t11, h15)) fun t32 h16 =>
 k2 (some (t11, h16)) fun t33 h17 =>
 k2 ((zp [(.int .i64 0), (.int .i64 0)] [(0, 1, t32), (1, 1, t33)]).map fun c => (Value.agg ⟨c⟩, h17)) fun t34 h18 =>
 k2 (vBin .eql (.leaves [0, 1]) t31 t34 h18) fun t35 h19 =>
 k2 (some (t35, h19)) fun t36 h20 =>
 k2 (gd t36 false h20 (some (t14, h20))) fun t37 h21 =>
 k2 (gd t36 false h21 (vUn .not t37 h21)) fun t38 h22 =>
 k2 (zG t36 (.bool true) t38 h22) fun t39 h23 =>
 k2 (some (t39, h23)) fun t40 h24 =>
 k2 (gd t40 false h24 (some (t13, h24))) fun t41 h25 =>
 k2 (gd t40 false h25 (zc t9 h25)) fun t42 h26 =>
 k2 (gd t40 false h26 (vBin .gtr .other t41 t42 h26)) fun t43 h27 =>
 k2 (zG t40 (.bool true) t43 h27) fun t44 h28 =>
 br t44
 (k2 (zq 1 t10 (.bool false) h28) fun _ h29 =>
 fin l (some .ret) h29)
 (fin l none h28) := by kernel_rfl
theorem s_k (X : Rn) (t0 t1 t2 t3 t4 : Value) (h : H) : zn X 5 f_k [t0, t1, t2, t3, t4] h =
 k2 (some (zi h (zj t0))) fun t5 h1 =>
 k2 (some (zi h1 (zj t1))) fun t6 h2 =>
 k2 (some (zi h2 (zj t2))) fun t7 h3 =>
 k2 (some (zi h3 (zj t4))) fun t9 h4 =>
 k2 (some (zi h4 [(.bool false)])) fun t10 h5 =>
 k2 (zh 3 t6 h5) fun t15 h6 =>
 k2 (some (t3, h6)) fun t16 h7 =>
 k2 (zg 2 t7 h7) fun t17 h8 =>
 k2 (zc t17 h8) fun t18 h9 =>
 k2 (X.call (.func (.func n_B) #[] #[]) [t15, t16, t18] h9) fun t19 h10 =>
 (isFn t19).bind fun fv => k2 (X.call fv [.func (.yield h10.next) #[] #[]] (h10.new (.loop .ready none (setL [p5, p7, p9, p10] [t5, t7, t9, t10]) zdj))) fun _ h11 =>
 rgP h10.next h11 (fun h12 => sh X c_k_0 (K_k_0 X) (setL [p10] [t10]) h12) (fun i h12 => bx i 0 (sh X c_k_0 (K_k_0 X) (setL [p10] [t10]) h12) (none)) (fun h12 => (vRes none t10 h12).bind fun r0 => some (.val (ze [r0]) h12)) := by kernel_rfl
theorem s_E_0 (X : Rn) (l : Nat) (t3 t4 t9 : Value) (h : H) : zX X zd9 l [t9] (setL [p3, p4] [t3, t4]) h =
 k2 (some (zi h [(.int .i64 0), (.int .i64 0), (.int .i64 0)])) fun t5 h1 =>
 k2 (zq 3 t5 t9 h1) fun _ h2 =>
 zfn l h2 fun h => sh X c_E_1 (K_E_1 X l) (setL [p3, p4, p5, p9] [t3, t4, t5, t9]) h := by kernel_rfl
theorem s_E_1 (X : Rn) (l : Nat) (t3 t4 t5 t9 : Value) (h : H) : sh X c_E_1 (K_E_1 X l) (setL [p3, p4, p5, p9] [t3, t4, t5, t9]) h =
 k2 (zg 2 t5 h) fun t10 h1 =>
 k2 (zc t10 h1) fun t11 h2 =>
 k2 (zc t3 h2) fun t12 h3 =>
 k2 (vBin .eql .other t11 t12 h3) fun t13 h4 =>
 k2 (some (t13, h4)) fun t14 h5 =>
 k2 (gd t14 true h5 (zc t4 h5)) fun t15 h6 =>
 k2 (gd t14 true h6 (zg 1 t5 h6)) fun t16 h7 =>
 k2 (gd t14 true h7 (zc t16 h7)) fun t17 h8 =>
 k2 (gd t14 true h8 (X.call t15 [t17] h8)) fun t18 h9 =>
 k2 (gd t14 true h9 (vUn .not t18 h9)) fun t19 h10 =>
 k2 (zG t14 t19 (.bool false) h10) fun t20 h11 =>
 br t20
 (fin l (some .ret) h11)
 (fin l none h11) := by kernel_rfl
theorem s_E (X : Rn) (t0 t1 t2 t3 : Value) (h : H) : zn X 4 f_E [t0, t1, t2, t3] h =
 k2 (some (zi h (zj t0))) fun t4 h1 =>
 k2 (zh 3 t1 h1) fun t6 h2 =>
 k2 (zc t2 h2) fun t7 h3 =>
 k2 (X.call (.func (.func n_A) #[] #[]) [t6, t7] h3) fun t8 h4 =>
 (isFn t8).bind fun fv => k2 (X.call fv [.func (.yield h4.next) #[] #[]] (h4.new (.loop .ready none (setL [p3, p4] [t3, t4]) zd9))) fun _ h5 =>
 rgP h4.next h5 (fun h6 => some (.val (ze []) h6)) (fun i h6 => bx i 0 (some (.val (ze []) h6)) (none)) (fun h6 => some (.val (ze []) h6)) := by kernel_rfl
end Go.Ideal.J
end
namespace Go.Ideal.J
open Go Go.Ideal
abbrev edL (a : Int × Int × Int) : List Value := [.int .i64 a.1, .int .i64 a.2.1, .int .i64 a.2.2]
abbrev edV (a : Int × Int × Int) : Value := .agg ⟨edL a⟩
def zbH (a b : Int × Int × Int) : Bool := if a.1 ≠ b.1 then decide (a.1 < b.1) else if a.2.2 ≠ b.2.2 then decide (a.2.2 < b.2.2) else decide (a.2.1 < b.2.1)
def cmpE (a b : Int) : Int := if a < b then -1 else if b < a then 1 else 0
theorem zhm (a : Int) (h : H) : zbs F (fnV n_F) [.int .i64 a] h = some (.bool false, h) := by
  refine zbi F_F 1 (by decide) ?_
  rw [s_F]
  simp
theorem zgo (a b : Int) (h : H) : zbs F (fnV n_C) [.int .i64 a, .int .i64 b] h = some (.int .i64 (cmpE a b), h) := by
  refine zbi F_C 2 (by decide) ?_
  rw [s_C]
  by_cases h1 : a < b
  · simp [zhm, cmpE, h1]
  · by_cases h2 : b < a
    · simp [zhm, cmpE, h1, h2]
    · simp [zhm, cmpE, h1, h2]
def orV (x y z : Int) : Int := if x ≠ 0 then x else if y ≠ 0 then y else z
theorem or_ok (x y z : Int) (h : H) (b : Nat) (hg : h.get b = some (.cells [.int .i64 x, .int .i64 y, .int .i64 z] 0)) : zbs F (fnV n_v) [.slice (some ⟨b, 0, none⟩) 3 3] h = some (.int .i64 (orV x y z), h) := by
  refine zbi F_v 1 (by decide) ?_
  rw [s_v]
  simp
  refine l_v_1 F _ _ _ _ _ ?_
  rw [s_v_1]
  by_cases hx : x = 0
  · simp [hg, hx]
    refine l_v_1 F _ _ _ _ _ ?_
    rw [s_v_1]
    by_cases hy : y = 0
    · simp [hg, hy]
      refine l_v_1 F _ _ _ _ _ ?_
      rw [s_v_1]
      by_cases hz : z = 0
      · simp [hg, hz]
        refine l_v_1 F _ _ _ _ _ ?_
        rw [s_v_1]
        simp [s_v_0, orV]
      · simp [hg, hz, orV]
    · simp [hg, hy, orV]
  · simp [hg, hx, orV]
def cmpT (a b : Int × Int × Int) : Int := orV (cmpE a.1 b.1) (cmpE a.2.2 b.2.2) (cmpE a.2.1 b.2.1)
theorem zcB (a b : Int × Int × Int) (h : H) : zbs F (fnV n_G) [edV a, edV b] h = some (.int .i64 (cmpT a b), ((h.new (.cells (edL a) 0)).new (.cells (edL b) 0)).new (.cells [.int .i64 (cmpE a.1 b.1), .int .i64 (cmpE a.2.2 b.2.2), .int .i64 (cmpE a.2.1 b.2.1)] 0)) := by
  refine zbi F_G 2 (by decide) ?_
  rw [s_G]
  simp [zgo, zp, zl]
  rw [or_ok (cmpE a.1 b.1) (cmpE a.2.2 b.2.2) (cmpE a.2.1 b.2.1) _ _ (by simp)]
  simp [cmpT]
abbrev gL (st lb : Int) (sl : Value) : List Value := [.int .i64 st, .int .i64 lb, sl]
abbrev gV (st lb : Int) (sl : Value) : Value := .agg ⟨gL st lb sl⟩
abbrev Ed := Int × Int × Int
def badE (st lb : Int) (x : Ed) : Bool := decide (x.1 < 0) || decide (st ≤ x.1) || decide (x.2.1 < 0) || decide (st ≤ x.2.1) || decide (x.2.2 < 0) || decide (lb ≤ x.2.2)
def okAt (st lb : Int) (es : List Ed) (i : Nat) : Bool := match es[i]? with
  | some x => !badE st lb x && (decide (i = 0) || match es[i - 1]? with | some y => zbH y x | none => true)
  | none => true
def ckN (st lb : Int) (es : List Ed) : Nat → Bool
  | 0 => true
  | n + 1 => okAt st lb es (es.length - (n + 1)) && ckN st lb es n
abbrev ptr (b : Nat) : Value := .pointer (some ⟨b, 0, none⟩)
def erk (b : Bool) : Value := .int .i64 (if b then 0 else 2)
end Go.Ideal.J
namespace Go.Ideal.J
open Go Go.Ideal
def chk (st lb : Int) (es : List Ed) : Bool := !(decide (st < 1) || decide (60 < st) || decide (lb < 1) || decide (41 < lb) || decide (400 < es.length)) && ckN st lb es es.length
end Go.Ideal.J
namespace Go.Ideal.J
open Go Go.Ideal
theorem vBin_ed (a b : Ed) (h : H) : vBin .neq (.leaves [0, 1, 2]) (edV a) (edV b) h = some (.bool (decide (a ≠ b)), h) := by
  obtain ⟨a1, a2, a3⟩ := a
  obtain ⟨b1, b2, b3⟩ := b
  have e : eqV (.leaves [0, 1, 2]) (edV (a1, a2, a3)) (edV (b1, b2, b3)) = some (eqI a1 b1 && (eqI a2 b2 && (eqI a3 b3 && true))) := rfl
  show ((eqV (.leaves [0, 1, 2]) (edV (a1, a2, a3)) (edV (b1, b2, b3))).map fun b => Value.bool (!b)).map _ = _
  rw [e]
  simp only [Option.map_some, zcs]
  congr 3
  rw [Bool.eq_iff_iff]; simp
def sameN (es fs : List Ed) (len : Nat) : Nat → Bool
  | 0 => true
  | n + 1 => decide (es[len - (n + 1)]? = fs[len - (n + 1)]?) && sameN es fs len n
theorem same_loop (st lb st' lb' : Int) (sl sl' : Value) (es fs : List Ed) (hl : es.length = fs.length) (hsz : es.length ≤ 9223372036854775806) (p q : Nat) : ∀ (n i : Nat) (h : H), i + n = es.length → h.get p = some (.cells (gL st lb sl) 0) → h.get q = some (.cells (gL st' lb' sl') 0) → Row h 3 sl (es.map edL) → Row h 3 sl' (fs.map edL) →
    lp (rI F) [p2, p3, p5] zg4 (kBlk 0 (kSeq (rI F) zg5 [] (K_g_0 (rI F)))) [ptr p, ptr q, .int .i64 (i : Int)] h = some (.val (.bool (sameN es fs es.length n)) h)
  | 0, i, h, hi, hp, hq, hrow, hrow' => by
    obtain ⟨base, c, hsl⟩ := hrow.len
    have hlen : (es.map edL).length = es.length := List.length_map _
    rw [hlen] at hsl; subst hsl
    refine l_g_1 F _ _ _ _ ?_
    rw [s_g_1]
    have hi' : ¬ (i : Int) < (es.length : Int) := by omega
    have hi'' : ¬ i < es.length := by omega
    simp [hp, hi', hi'', s_g_0, sameN]
  | n + 1, i, h, hi, hp, hq, hrow, hrow' => by
    have hil : i < es.length := by omega
    have hil2 : i < fs.length := by omega
    have hx : (es.map edL)[i]? = some (edL es[i]) := by simp [hil]
    have hy : (fs.map edL)[i]? = some (edL fs[i]) := by simp [hil2]
    have e0 : es[i]? = some es[i] := by simp [hil]
    have e1 : fs[i]? = some fs[i] := by simp [hil2]
    have hsub : es.length - (n + 1) = i := by omega
    have hck : sameN es fs es.length (n + 1) = (decide (es[i] = fs[i]) && sameN es fs es.length n) := by
      show (decide (es[es.length - (n + 1)]? = fs[es.length - (n + 1)]?) && _) = _
      rw [hsub, e0, e1]; simp
    have ih := same_loop st lb st' lb' sl sl' es fs hl hsz p q n (i + 1) h (by omega) hp hq hrow hrow'
    generalize es[i] = x at *
    generalize fs[i] = y at *
    obtain ⟨b, o, cs, e, hv, hb, hg, ht⟩ := hrow.index hx
    obtain ⟨b2, o2, cs2, e2, hv2, hb2, hg2, ht2⟩ := hrow'.index hy
    obtain ⟨base, c, hsl⟩ := hrow.len
    obtain ⟨base2, c2, hsl2⟩ := hrow'.len
    have hlen : (es.map edL).length = es.length := List.length_map _
    have hlen2 : (fs.map edL).length = fs.length := List.length_map _
    rw [hlen] at hsl; rw [hlen2] at hsl2; subst hsl; subst hsl2
    have w1 : -9223372036854775808 ≤ (i : Int) + 1 := by omega
    have w2 : (i : Int) + 1 ≤ 9223372036854775807 := by omega
    have hil' : (i : Int) < (es.length : Int) := by omega
    refine l_g_1 F _ _ _ _ ?_
    rw [s_g_1, hck]
    by_cases hxy : x = y
    · simp [hp, hq, hil, hil', hv, hg, ht, hv2, hg2, ht2, vBin_ed, hxy, w1, w2]
      simpa using ih
    · simp [hp, hq, hil, hil', hv, hg, ht, hv2, hg2, ht2, vBin_ed, hxy, w1, w2]
theorem sameN_iff (es fs : List Ed) (hl : es.length = fs.length) : sameN es fs es.length es.length = decide (es = fs) := by
  have key : ∀ n, n ≤ es.length → (sameN es fs es.length n = true ↔ es.drop (es.length - n) = fs.drop (es.length - n)) := by
    intro n
    induction n with
    | zero => intro _; simp [sameN, hl]
    | succ n ih =>
      intro hn
      have h1 : es.length - (n + 1) < es.length := by omega
      have h2 : es.length - (n + 1) < fs.length := by omega
      have e : es.length - (n + 1) + 1 = es.length - n := by omega
      simp only [sameN, Bool.and_eq_true, decide_eq_true_eq, ih (by omega)]
      rw [List.drop_eq_getElem_cons h1, List.drop_eq_getElem_cons h2, e, List.getElem?_eq_getElem h1, List.getElem?_eq_getElem h2]
      simp
  have := key es.length (Nat.le_refl _)
  rw [Nat.sub_self, List.drop_zero, List.drop_zero] at this
  rw [Bool.eq_iff_iff, this]; simp
def sameG (st lb st' lb' : Int) (es fs : List Ed) : Bool := decide (st = st') && decide (lb = lb') && decide (es = fs)
theorem same_ok (st lb st' lb' : Int) (sl sl' : Value) (es fs : List Ed) (hsz : es.length ≤ 9223372036854775806) (h : H) (hrow : Row h 3 sl (es.map edL)) (hrow' : Row h 3 sl' (fs.map edL)) :
    zbs F (fnV n_g) [gV st lb sl, gV st' lb' sl'] h = some (.bool (sameG st lb st' lb' es fs), (h.new (.cells (gL st lb sl) 0)).new (.cells (gL st' lb' sl') 0)) := by
  obtain ⟨base, c, hsl⟩ := hrow.len
  obtain ⟨base2, c2, hsl2⟩ := hrow'.len
  have hlen : (es.map edL).length = es.length := List.length_map _
  have hlen2 : (fs.map edL).length = fs.length := List.length_map _
  rw [hlen] at hsl; rw [hlen2] at hsl2
  refine zbi F_g 2 (by decide) ?_
  rw [s_g]
  by_cases h1 : st = st'
  · by_cases h2 : lb = lb'
    · by_cases h3 : es.length = fs.length
      · have ih := same_loop st lb st' lb' sl sl' es fs h3 hsz h.next (h.next + 1) es.length 0 ((h.new (.cells (gL st lb sl) 0)).new (.cells (gL st' lb' sl') 0)) (by omega) (by simp) (by simp) (hrow.fr ((Fr.new _ _).newR _)) (hrow'.fr ((Fr.new _ _).newR _))
        rw [sameN_iff es fs h3] at ih
        subst hsl; subst hsl2
        have h3' : (es.length : Int) = fs.length := by omega
        simp [h1, h2, h3, h3', sameG]
        simpa [h1, h2, h3] using ih
      · have h3' : ¬ (es.length : Int) = fs.length := by omega
        have hne : ¬ es = fs := fun e => h3 (by rw [e])
        subst hsl; subst hsl2
        simp [h1, h2, h3, h3', sameG, hne]
    · subst hsl; subst hsl2
      simp [h1, h2, sameG]
  · subst hsl; subst hsl2
    simp [h1, sameG]
end Go.Ideal.J
namespace Go.Ideal.J
open Go Go.Ideal
theorem min3 (a b c : Int) (h : H) : bltV h .min [.int .i64 a, .int .i64 b, .int .i64 c] = some (.int .i64 (min a (min b c)), h) := by
  show (zco false (.int .i64 a) [.int .i64 b, .int .i64 c]).map (·, h) = _
  by_cases h1 : b < a
  · by_cases h2 : c < b
    · simp [zco, zcT, h1, h2]; omega
    · simp [zco, zcT, h1, h2]; omega
  · by_cases h2 : c < a
    · simp [zco, zcT, h1, h2]; omega
    · simp [zco, zcT, h1, h2]; omega
theorem max2 (a b : Int) (h : H) : bltV h .max [.int .i64 a, .int .i64 b] = some (.int .i64 (max a b), h) := by
  show (zco true (.int .i64 a) [.int .i64 b]).map (·, h) = _
  by_cases h1 : a < b
  · simp [zco, zcT, h1]; omega
  · simp [zco, zcT, h1]; omega
theorem zih (y x : Ed) : (0 ≤ cmpT y x) ↔ zbH y x = false := by
  obtain ⟨y1, y2, y3⟩ := y
  obtain ⟨x1, x2, x3⟩ := x
  unfold cmpT zbH orV cmpE
  dsimp only
  repeat' split
  all_goals (simp; try omega)
theorem zcW (st lb : Int) (sl : Value) (es : List Ed) (hsz : es.length ≤ 9223372036854775806) (p : Nat) : ∀ (n i : Nat) (h : H), i + n = es.length → h.get p = some (.cells (gL st lb sl) 0) → p < h.next → Row h 3 sl (es.map edL) →
    ∃ h', lp (rI F) [p1, p30, p31, p32] zfX (kBlk 0 (kSeq (rI F) zgs [] (K_n_0 (rI F)))) [ptr p, sl, .int .i64 (es.length : Int), .int .i64 (i : Int)] h = some (.val (erk (ckN st lb es n)) h') ∧ Fr h h'
  | 0, i, h, hi, hp, hlt, hrow => by
    refine ⟨h, l_n_1 F _ _ _ _ _ ?_, .refl _⟩
    rw [s_n_1]
    have hi' : (es.length : Int) = i := by omega
    simp [hi', s_n_0, ckN, erk]
  | n + 1, i, h, hi, hp, hlt, hrow => by
    have hil : i < es.length := by omega
    have hx : (es.map edL)[i]? = some (edL es[i]) := by simp [hil]
    obtain ⟨b, o, cs, e, hv, hb, hg, ht⟩ := hrow.index hx
    have hlen : (es.map edL).length = es.length := List.length_map _
    have n0 : ¬ h.next = b := by omega
    have n1 : ¬ h.next = p := by omega
    have n3 : ¬ h.next + 1 = p := by omega
    have n4 : ¬ h.next + 1 + 1 = p := by omega
    have n5 : ¬ h.next + 1 + 1 + 1 = p := by omega
    have hsub : es.length - (n + 1) = i := by omega
    have hil' : (i : Int) < es.length := by omega
    have e0 : es[i]? = some es[i] := by simp [hil]
    generalize es[i] = x at *
    obtain ⟨base, c, hsl⟩ := hrow.len
    rw [hlen] at hsl
    have hbad : badE st lb x = true → ckN st lb es (n + 1) = false := by
      intro hb'
      show (okAt st lb es (es.length - (n + 1)) && _) = _
      rw [hsub]; unfold okAt; rw [e0]; simp [hb']
    have key : ∀ r, sh (rI F) zfX (K_n_1 (rI F)) (setL [p1, p30, p31, p32] [ptr p, sl, .int .i64 (es.length : Int), .int .i64 (i : Int)]) h = some r → lp (rI F) [p1, p30, p31, p32] zfX (kBlk 0 (kSeq (rI F) zgs [] (K_n_0 (rI F)))) [ptr p, sl, .int .i64 (es.length : Int), .int .i64 (i : Int)] h = some r := fun r hr => l_n_1 F _ _ _ _ _ hr
    have hp' := hp
    have hslc := hsl
    subst hsl
    by_cases h1 : min x.1 (min x.2.1 x.2.2) < 0
    · refine ⟨h.new (.cells (edL x) 0), key _ ?_, .new _ _⟩
      rw [s_n_1, hbad (by simp only [badE, Bool.or_eq_true, decide_eq_true_eq]; omega)]
      simp [hp, hil, hv, hg, ht, n0, n1, min3, max2, h1, erk]
    by_cases h2 : st ≤ max x.1 x.2.1
    · refine ⟨h.new (.cells (edL x) 0), key _ ?_, .new _ _⟩
      rw [s_n_1, hbad (by simp only [badE, Bool.or_eq_true, decide_eq_true_eq]; omega)]
      simp [hp, hil, hv, hg, ht, n0, n1, min3, max2, h1, h2, erk]
    by_cases h3 : lb ≤ x.2.2
    · refine ⟨h.new (.cells (edL x) 0), key _ ?_, .new _ _⟩
      rw [s_n_1, hbad (by simp only [badE, Bool.or_eq_true, decide_eq_true_eq]; omega)]
      simp [hp, hil, hv, hg, ht, n0, n1, min3, max2, h1, h2, h3, erk]
    have hgood : badE st lb x = false := by
      rw [Bool.eq_false_iff]; intro hb'; simp only [badE, Bool.or_eq_true, decide_eq_true_eq] at hb'; omega
    have w1 : -9223372036854775808 ≤ (i : Int) + 1 := by omega
    have w2 : (i : Int) + 1 ≤ 9223372036854775807 := by omega
    by_cases hi0 : i = 0
    · have hz : ¬ 0 < i := by omega
      obtain ⟨h', he, hf⟩ := zcW st lb _ es hsz p n (i + 1) (h.new (.cells (edL x) 0)) (by omega) (by simp [hp', n1]) (by simp; omega) (hrow.fr (.new _ _))
      refine ⟨h', key _ ?_, (Fr.new _ _).trans hf⟩
      have hck : ckN st lb es (n + 1) = ckN st lb es n := by
        show (okAt st lb es (es.length - (n + 1)) && _) = _
        rw [hsub]; unfold okAt; rw [e0]; simp [hgood, hi0]
      rw [s_n_1, hck]
      simp [hp, hil, hv, hg, ht, n0, n1, min3, max2, h1, h2, h3, hz, w1, w2]
      simpa using he
    · have hy : (es.map edL)[i - 1]? = some (edL es[i - 1]) := by simp [show i - 1 < es.length by omega]
      obtain ⟨b2, o2, cs2, e2, hv2, hb2, hg2, ht2⟩ := hrow.index hy
      have hye : es[i - 1]? = some es[i - 1] := by simp [show i - 1 < es.length by omega]
      generalize es[i - 1] = y at *
      have n2 : ¬ h.next = b2 := by omega
      have hpred : (i : Int) - 1 = ((i - 1 : Nat) : Int) := by omega
      have w3 : -9223372036854775808 ≤ (i : Int) - 1 := by omega
      have w4 : (i : Int) - 1 ≤ 9223372036854775807 := by omega
      have hsubv : ∀ h', vBin .sub .other (.int .i64 (i : Int)) (.int .i64 1) h' = some (.int .i64 ((i - 1 : Nat) : Int), h') := fun h' => by rw [zdJ w3 w4, hpred]
      have hpos : 0 < i := by omega
      have hck : ckN st lb es (n + 1) = (zbH y x && ckN st lb es n) := by
        show (okAt st lb es (es.length - (n + 1)) && _) = _
        rw [hsub]; unfold okAt; rw [e0, hye]; simp [hgood, hi0]
      by_cases hl : zbH y x = true
      · have hc : ¬ 0 ≤ cmpT y x := fun hc => by rw [(zih y x).1 hc] at hl; cases hl
        obtain ⟨h', he, hf⟩ := zcW st lb _ es hsz p n (i + 1) ((((h.new (.cells (edL x) 0)).new (.cells (edL y) 0)).new (.cells (edL x) 0)).new (.cells [.int .i64 (cmpE y.1 x.1), .int .i64 (cmpE y.2.2 x.2.2), .int .i64 (cmpE y.2.1 x.2.1)] 0)) (by omega) (by simp [hp', n1, n3, n4, n5]) (by simp; omega) (hrow.fr ((((Fr.new _ _).newR _).newR _).newR _))
        refine ⟨h', key _ ?_, ((((Fr.new _ _).newR _).newR _).newR _).trans hf⟩
        rw [s_n_1, hck, hl, Bool.true_and]
        simp [hp, hil, hv, hg, ht, n0, n1, n2, min3, max2, h1, h2, h3, hpos, w1, w2, hsubv, hv2, hg2, ht2, zcB, hc]
        simpa using he
      · have hl : zbH y x = false := by simpa using hl
        have hc : 0 ≤ cmpT y x := (zih y x).2 hl
        refine ⟨_, key _ ?_, (((Fr.new h (.cells (edL x) 0)).newR (.cells (edL y) 0)).newR (.cells (edL x) 0)).newR (.cells [.int .i64 (cmpE y.1 x.1), .int .i64 (cmpE y.2.2 x.2.2), .int .i64 (cmpE y.2.1 x.2.1)] 0)⟩
        rw [s_n_1, hck, hl, Bool.false_and]
        simp [hp, hil, hv, hg, ht, n0, n1, n2, min3, max2, h1, h2, h3, hpos, w1, w2, hsubv, hv2, hg2, ht2, zcB, hc, erk]
theorem zcH (st lb : Int) (sl : Value) (es : List Ed) (h : H) (hrow : Row h 3 sl (es.map edL)) : ∃ h', zbs F (fnV n_n) [gV st lb sl] h = some (erk (chk st lb es), h') ∧ Fr h h' := by
  obtain ⟨base, c, hsl⟩ := hrow.len
  have hlen : (es.map edL).length = es.length := List.length_map _
  rw [hlen] at hsl
  by_cases h1 : st < 1
  · refine ⟨_, zbi F_n 1 (by decide) ?_, .new h (.cells (gL st lb sl) 0)⟩
    rw [s_n]; subst hsl
    simp [h1, chk, erk]
  by_cases h2 : 60 < st
  · refine ⟨_, zbi F_n 1 (by decide) ?_, .new h (.cells (gL st lb sl) 0)⟩
    rw [s_n]; subst hsl
    simp [h1, h2, chk, erk]
  by_cases h3 : lb < 1
  · refine ⟨_, zbi F_n 1 (by decide) ?_, .new h (.cells (gL st lb sl) 0)⟩
    rw [s_n]; subst hsl
    simp [h1, h2, h3, chk, erk]
  by_cases h4 : 41 < lb
  · refine ⟨_, zbi F_n 1 (by decide) ?_, .new h (.cells (gL st lb sl) 0)⟩
    rw [s_n]; subst hsl
    simp [h1, h2, h3, h4, chk, erk]
  by_cases h5 : 400 < es.length
  · refine ⟨_, zbi F_n 1 (by decide) ?_, .new h (.cells (gL st lb sl) 0)⟩
    rw [s_n]; subst hsl
    have h5' : (400 : Int) < es.length := by omega
    simp [h1, h2, h3, h4, h5, h5', chk, erk]
  obtain ⟨h', he, hf⟩ := zcW st lb sl es (by omega) h.next es.length 0 (h.new (.cells (gL st lb sl) 0)) (by omega) (by simp) (by simp) (hrow.fr (.new _ _))
  refine ⟨h', zbi F_n 1 (by decide) ?_, (Fr.new _ _).trans hf⟩
  rw [s_n]; subst hsl
  have h5' : ¬ (400 : Int) < es.length := by omega
  have hc : chk st lb es = ckN st lb es es.length := by simp [chk, h1, h2, h3, h4, h5]
  rw [hc]
  simp [h1, h2, h3, h4, h5, h5']
  simpa using he
end Go.Ideal.J
set_option maxRecDepth 10000
namespace Go.Ideal.J
open Go Go.Ideal
theorem zhp {a : Int} {h : H} (h0 : 0 ≤ a) (h1 : a ≤ 9223372036854775807) : vConv .u64 (.int .i64 a) h = some (.int .u64 a, h) := by
  show some (Value.int .u64 (IntKind.wrap .u64 a), h) = _
  have : IntKind.wrap .u64 a = a := by
    unfold IntKind.wrap
    show (if (false && decide (a % (2 ^ 64 : Int) ≥ (2 ^ 63 : Int))) = true then a % (2 ^ 64 : Int) - (2 ^ 64 : Int) else a % (2 ^ 64 : Int)) = a
    simp; omega
  rw [this]
theorem zhq {k : IntKind} {a : Int} {h : H} (h0 : -9223372036854775808 ≤ a) (h1 : a ≤ 9223372036854775807) : vConv .i64 (.int k a) h = some (.int .i64 a, h) := by
  show some (Value.int .i64 (IntKind.wrap .i64 a), h) = _
  have := wrapF_in h0 h1
  rw [wrapF_eq] at this; rw [this]
theorem shr1 {ek : EK} {k : IntKind} {a : Int} {h : H} : vBin .shr ek (.int k a) (.int .u64 1) h = some (.int k (a / 2), h) := by
  have : (2 : Int) ^ (min (1 : Int).toNat k.bits) = 2 := by cases k <;> rfl
  show (if ltI 1 0 then none else some (Value.int k (a.fdiv (2 ^ (min (1 : Int).toNat k.bits))))).map (·, h) = _
  rw [this]
  have h2 : ltI 1 0 = false := rfl
  rw [h2, Int.fdiv_eq_ediv_of_nonneg _ (by omega)]; rfl
theorem zd5 (x : Ed) (a : Int) (h : H) : zbs F (fnV n_T) [edV x, .int .i64 a] h = some (.int .i64 (cmpE x.1 a), h.new (.cells (edL x) 0)) := by
  refine zbi F_T 2 (by decide) ?_
  rw [s_T]
  simp [zgo]
theorem cmpE_neg (a b : Int) : cmpE a b < 0 ↔ a < b := by unfold cmpE; split <;> (try split) <;> omega
structure Cut (es : List Ed) (a : Int) (at_ : Nat) : Prop where
  le : at_ ≤ es.length
  lo : ∀ k x, es[k]? = some x → k < at_ → x.1 < a
  hi : ∀ k x, es[k]? = some x → at_ ≤ k → a ≤ x.1
def IsAt (n : Nat) (v : Value) : Prop := ∃ b : Bool, v = .tuple #[.int .i64 (n : Int), .bool b]
theorem bs_loop (es : List Ed) (hsz : es.length ≤ 1000) (a : Int) (at_ : Nat) (hc : Cut es a at_) (sl : Value) (h0 : H) (hrow0 : Row h0 3 sl (es.map edL)) : ∀ (n i j : Nat) (h : H), j - i = n → i ≤ at_ → at_ ≤ j → j ≤ es.length → Fr h0 h →
    OkV (sh (rI F) zgu (K_a_1 (rI F)) (setL [p0, p1, p2, p8, p9, p10] [sl, .int .i64 a, fnV n_T, .int .i64 (es.length : Int), .int .i64 (i : Int), .int .i64 (j : Int)]) h)
      fun v h' => IsAt at_ v ∧ Fr h0 h' := by
  intro n
  induction n using Nat.strongRecOn with
  | _ n ih =>
    intro i j h hn hi hj hl hf
    rw [s_a_1]
    by_cases hij : i < j
    · obtain ⟨m, em⟩ : ∃ m, m = (i + j) / 2 := ⟨_, rfl⟩
      have hm : m < es.length := by omega
      have hx : (es.map edL)[m]? = some (edL es[m]) := by simp [hm]
      obtain ⟨b, o, cs, e, hv, hb, hg, ht⟩ := (hrow0.fr hf).index hx
      have hlo := hc.lo m _ (List.getElem?_eq_getElem hm)
      have hhi := hc.hi m _ (List.getElem?_eq_getElem hm)
      have e1 : ((i : Int) + (j : Int)) / 2 = (m : Int) := by omega
      generalize es[m] = x at *
      by_cases hxa : x.1 < a
      · have hxa' : cmpE x.1 a < 0 := (cmpE_neg _ _).2 hxa
        have := ih (j - (m + 1)) (by omega) (m + 1) j (h.new (.cells (edL x) 0)) rfl (by have := fun h => hhi h; omega) hj hl (hf.newR _)
        refine OkV.eq (this.lp (l_a_1 F _ _ _ _ _ _ _)) ?_
        simp (disch := omega) [hij, zhp, zhq, shr1, e1, hv, hg, ht, zd5, hxa', zN]
      · have hxa' : ¬ cmpE x.1 a < 0 := fun h => hxa ((cmpE_neg _ _).1 h)
        have := ih (m - i) (by omega) i m (h.new (.cells (edL x) 0)) rfl hi (by have := fun h => hlo h; omega) (by omega) (hf.newR _)
        refine OkV.eq (this.lp (l_a_1 F _ _ _ _ _ _ _)) ?_
        simp (disch := omega) [hij, zhp, zhq, shr1, e1, hv, hg, ht, zd5, hxa', zN]
    · have e : at_ = i := by omega
      subst e
      have e2 : j = at_ := by omega
      subst e2
      simp (disch := omega) [hij]
      rw [s_a_0]
      by_cases hlt : j < es.length
      · have hx : (es.map edL)[j]? = some (edL es[j]) := by simp [hlt]
        obtain ⟨b, o, cs, e, hv, hb, hg, ht⟩ := (hrow0.fr hf).index hx
        refine OkV.eq (OkV.val (v := .tuple #[.int .i64 (j : Int), .bool (decide (cmpE es[j].1 a = 0))]) (h := h.new (.cells (edL es[j]) 0)) ⟨⟨_, rfl⟩, hf.newR _⟩) ?_
        simp (disch := omega) [hlt, hv, hg, ht, zd5]
      · refine OkV.eq (OkV.val (v := .tuple #[.int .i64 (j : Int), .bool false]) (h := h) ⟨⟨_, rfl⟩, hf⟩) ?_
        simp (disch := omega) [hlt]
end Go.Ideal.J
namespace Go.Ideal.J
open Go Go.Ideal
theorem bs_ok (es : List Ed) (hsz : es.length ≤ 1000) (a : Int) (at_ : Nat) (hc : Cut es a at_) (sl : Value) (h : H) (hrow : Row h 3 sl (es.map edL)) :
    Ret F (fnV n_a) [sl, .int .i64 a, fnV n_T] h fun v h' => IsAt at_ v ∧ Fr h h' := by
  refine Ret.fn F_a 3 (by decide) ?_
  rw [s_a]
  have := bs_loop es hsz a at_ hc sl h hrow es.length 0 es.length h (by omega) (by omega) hc.le (by omega) (.refl _)
  obtain ⟨base, c, hsl⟩ := hrow.len
  rw [List.length_map] at hsl
  refine OkV.eq (this.lp (l_a_1 F _ _ _ _ _ _ _)) ?_
  subst hsl
  simp
end Go.Ideal.J
namespace Go.Ideal.J
open Go Go.Ideal
def outs (es : List Ed) (a : Int) : List Ed := es.filter fun x => decide (x.1 = a)
def zbu (es : List Ed) : Prop := es.Pairwise fun x y => x.1 ≤ y.1
def below (es : List Ed) (a : Int) : Nat := (es.filter fun x => decide (x.1 < a)).length
theorem zda (a : Int) : ∀ {es : List Ed}, zbu es → es = (es.filter fun x => decide (x.1 < a)) ++ outs es a ++ es.filter fun x => decide (a < x.1)
  | [], _ => rfl
  | x :: es, h => by
    obtain ⟨h1, h2⟩ := List.pairwise_cons.1 h
    have ih := zda a h2
    rcases Int.lt_trichotomy x.1 a with c | c | c
    · have e1 : ¬ x.1 = a := by omega
      have e2 : ¬ a < x.1 := by omega
      simp only [outs, List.filter_cons, c, e1, e2, decide_true, decide_false, if_true, Bool.false_eq_true, if_false, List.cons_append] at ih ⊢
      rw [← ih]
    · have e1 : ¬ x.1 < a := by omega
      have e2 : ¬ a < x.1 := by omega
      have z : (es.filter fun x => decide (x.1 < a)) = [] := by
        rw [List.filter_eq_nil_iff]; intro y hy; have := h1 y hy; simp; omega
      simp only [outs, List.filter_cons, c, decide_true, if_true] at ih ⊢
      rw [z, List.nil_append] at ih
      simp only [Int.lt_irrefl, decide_false, Bool.false_eq_true, if_false, z, List.nil_append, List.cons_append]
      rw [← ih]
    · have e1 : ¬ x.1 < a := by omega
      have e2 : ¬ x.1 = a := by omega
      have z : (es.filter fun x => decide (x.1 < a)) = [] := by
        rw [List.filter_eq_nil_iff]; intro y hy; have := h1 y hy; simp; omega
      have z2 : (es.filter fun x => decide (x.1 = a)) = [] := by
        rw [List.filter_eq_nil_iff]; intro y hy; have := h1 y hy; simp; omega
      have z3 : (es.filter fun x => decide (a < x.1)) = es := by
        rw [List.filter_eq_self]; intro y hy; have := h1 y hy; simp; omega
      simp only [outs, List.filter_cons, e1, e2, c, decide_true, decide_false, if_true, Bool.false_eq_true, if_false, z, z2, z3, List.nil_append]
theorem cut_of {es : List Ed} (h : zbu es) (a : Int) : Cut es a (below es a) := by
  refine ⟨List.length_filter_le .., fun k x hk hl => ?_, fun k x hk hl => ?_⟩
  · rw [zda a h, List.append_assoc, List.getElem?_append_left hl] at hk
    simpa using (List.mem_filter.1 (List.mem_of_getElem? hk)).2
  · rw [zda a h, List.append_assoc, List.getElem?_append_right hl] at hk
    have := List.mem_of_getElem? hk
    rcases List.mem_append.1 this with hm | hm
    · have := (List.mem_filter.1 hm).2; simp at this; omega
    · have := (List.mem_filter.1 hm).2; simp at this; omega
theorem zjx {es : List Ed} (h : zbu es) (a : Int) : es.drop (below es a) = outs es a ++ es.filter fun x => decide (a < x.1) := by
  have e := zda a h
  have : es.drop (below es a) = ((es.filter fun x => decide (x.1 < a)) ++ (outs es a ++ es.filter fun x => decide (a < x.1))).drop (es.filter fun x => decide (x.1 < a)).length := by
    rw [← List.append_assoc, ← e]; rfl
  rw [this, List.drop_left]
def YOk (F : FuncId → Option zr) (y : Value) (l : List Value) (M : Nat → Prop) (n0 : Nat) (Inv : Nat → H → Prop) (Stop : H → Prop) : Prop :=
  ∀ i x h, l[i]? = some x → Inv i h → n0 ≤ h.next → Ret F y [x] h fun v h' => FrD M h h' ∧ ((v = .bool true ∧ Inv (i + 1) h') ∨ (v = .bool false ∧ Stop h'))
theorem steps_loop (l r : List Ed) (a : Int) (hl : ∀ x ∈ l, x.1 = a) (hr : ∀ x ∈ r, x.1 ≠ a) (hsz : (l ++ r).length ≤ 1000) (y : Value) (sl' : Value) (pf : Nat) (h0 : H) {M : Nat → Prop} (hrow : Row h0 3 sl' ((l ++ r).map edL))
    (hm1 : ¬ M pf) (hm2 : ∀ b o n c, sl' = .slice (some ⟨b, o, none⟩) n c → ¬ M b) (hpf : pf < h0.next) (hgf : h0.get pf = some (.cells [.int .i64 a] 0)) (Inv : Nat → H → Prop) (Stop : H → Prop) (n0 : Nat) (hn0 : n0 ≤ h0.next)
    (hst : ∀ i h1 h2, Inv i h1 → Fr h1 h2 → Inv i h2) (hy : YOk F y (l.map edV) M n0 Inv Stop) {P : Value → H → Prop} (hP : ∀ h', FrD M h0 h' → (Inv l.length h' ∨ Stop h') → P (.tuple #[]) h') :
    ∀ (n i : Nat) (h : H), i + n = l.length → Inv i h → FrD M h0 h →
    OkV (sh (rI F) zil (K_z_0 (rI F)) (setL [p0, p2, p18, p19, p20] [y, ptr pf, sl', .int .i64 ((l ++ r).length : Int), .int .i64 (i : Int)]) h) P := by
  intro n
  obtain ⟨N, hN⟩ : ∃ N, (l ++ r).length = N := ⟨_, rfl⟩
  rw [hN] at hsz ⊢
  induction n with
  | zero =>
    intro i h hi hI hf
    rw [s_z_0]
    have hi : i = l.length := by omega
    subst hi
    by_cases hlt : l.length < N
    · have hlt' : l.length < (l ++ r).length := by omega
      have h2 : (l ++ r)[l.length]? = some (l ++ r)[l.length] := List.getElem?_eq_getElem hlt'
      have hx : ((l ++ r).map edL)[l.length]? = some (edL (l ++ r)[l.length]) := by rw [List.getElem?_map, h2]; rfl
      rw [List.getElem?_append_right (Nat.le_refl _)] at h2
      have hne := hr _ (List.mem_of_getElem? h2)
      obtain ⟨b, o, cs, e, hv, hb, hg, ht⟩ := (hrow.frD hf hm2).index hx
      generalize (l ++ r)[l.length] = x at *
      have hpf' : h.get pf = some (.cells [.int .i64 a] 0) := (hf.get _ hpf hm1).trans hgf
      have hpl : pf < h.next := Nat.lt_of_lt_of_le hpf hf.next
      refine OkV.eq (OkV.val (hP (h.new (.cells (edL x) 0)) (hf.new _) (.inl (hst _ _ _ hI (.new _ _))))) ?_
      simp (disch := omega) [hlt, hv, hg, ht, hpf', hne, ze]
    · refine OkV.eq (OkV.val (hP h hf (.inl hI))) ?_
      simp (disch := omega) [hlt, ze]
  | succ n ih =>
    intro i h hi hI hf
    rw [s_z_0]
    have hil : i < l.length := by omega
    have hlt : i < N := by rw [← hN, List.length_append]; omega
    have hx : ((l ++ r).map edL)[i]? = some (edL l[i]) := by
      rw [List.getElem?_map, List.getElem?_append_left hil, List.getElem?_eq_getElem hil]; rfl
    have hmem : l[i].1 = a := hl _ (List.getElem_mem hil)
    have hxv : (l.map edV)[i]? = some (edV l[i]) := by simp [hil]
    obtain ⟨b, o, cs, e, hv, hb, hg, ht⟩ := (hrow.frD hf hm2).index hx
    generalize l[i] = x at *
    have hpf' : h.get pf = some (.cells [.int .i64 a] 0) := (hf.get _ hpf hm1).trans hgf
    have hpl : pf < h.next := Nat.lt_of_lt_of_le hpf hf.next
    have hc := hy i _ (h.new (.cells (edL x) 0)) hxv (hst _ _ _ hI (.new _ _)) (by have := hf.next; simp; omega)
    obtain ⟨x1, x2, x3⟩ := x
    obtain rfl : x1 = a := hmem
    simp (disch := omega) [hlt, hv, hg, ht, hpf']
    refine OkV.call hc ?_
    rintro v h' ⟨hf', hv'⟩
    rcases hv' with ⟨rfl, hI'⟩ | ⟨rfl, hS⟩
    · have := ih (i + 1) h' (by omega) hI' ((hf.new _).trans (hf'.mono fun _ _ h => h))
      refine OkV.eq (this.lp (l_z_0 F _ _ _ _ _ _)) ?_
      simp (disch := omega) [zN]
    · refine OkV.eq (OkV.val (hP h' ((hf.new _).trans hf') (.inr hS))) ?_
      simp [ze]
end Go.Ideal.J
namespace Go.Ideal.J
open Go Go.Ideal
abbrev stepsV (pg pf : Nat) : Value := .func (.func n_z) ⟨[]⟩ ⟨[ptr pg, ptr pf]⟩
theorem steps_ok (g : Value) (a : Value) (h : H) : zbs F (fnV n_A) [g, a] h = some (stepsV h.next (h.next + 1), (h.new (.cells (zj g) 0)).new (.cells (zj a) 0)) := by
  refine zbi F_A 2 (by decide) ?_
  rw [s_A]
  simp
theorem zhB (es : List Ed) (hs : zbu es) (hsz : es.length ≤ 1000) (a st lb : Int) (y : Value) (sl : Value) (pg pf : Nat) (h0 : H) {M : Nat → Prop} (hrow : Row h0 3 sl (es.map edL))
    (hm0 : ¬ M pg) (hm1 : ¬ M pf) (hm2 : ∀ b o n c, sl = .slice (some ⟨b, o, none⟩) n c → ¬ M b) (hpg : pg < h0.next) (hgg : h0.get pg = some (.cells (gL st lb sl) 0)) (hpf : pf < h0.next) (hgf : h0.get pf = some (.cells [.int .i64 a] 0)) (Inv : Nat → H → Prop) (Stop : H → Prop) (n0 : Nat) (hn0 : n0 ≤ h0.next)
    (hst : ∀ i h1 h2, Inv i h1 → Fr h1 h2 → Inv i h2) (hy : YOk F y ((outs es a).map edV) M n0 Inv Stop) (hI : Inv 0 h0) {P : Value → H → Prop} (hP : ∀ h', FrD M h0 h' → (Inv (outs es a).length h' ∨ Stop h') → P (.tuple #[]) h') :
    Ret F (stepsV pg pf) [y] h0 P := by
  obtain ⟨base0, c0, hsl0⟩ := hrow.lenM
  subst hsl0
  refine Ret.clo F_z 3 (by decide) ?_
  show OkV (zn (rI F) 3 f_z [y, ptr pg, ptr pf] h0) P
  rw [s_z]
  simp (disch := omega) [hgg, hgf]
  refine OkV.call (bs_ok es hsz a (below es a) (cut_of hs a) _ h0 hrow) ?_
  rintro v h' ⟨⟨b, rfl⟩, hf⟩
  have hle : below es a ≤ (es.map edL).length := by rw [List.length_map]; exact (cut_of hs a).le
  have hgg' : h'.get pg = some (.cells (gL st lb (.slice base0 es.length c0)) 0) := (hf.get _ hpg).trans hgg
  have hgf' : h'.get pf = some (.cells [.int .i64 a] 0) := (hf.get _ hpf).trans hgf
  obtain ⟨sl', hsl, hrow', hfrom⟩ := (hrow.fr hf).drop hle
  rw [← List.map_drop, zjx hs a] at hrow'
  have hsub : ∀ b o n c, sl' = .slice (some ⟨b, o, none⟩) n c → ¬ M b := by
    intro b o n c e
    obtain ⟨_, _, _, e1⟩ := hfrom _ _ _ _ e
    exact hm2 _ _ _ _ e1
  obtain ⟨base, cc, hsl2⟩ := hrow'.lenM
  have := steps_loop (outs es a) (es.filter fun x => decide (a < x.1)) a (fun x hx => by simpa using (List.mem_filter.1 hx).2) (fun x hx => by have := (List.mem_filter.1 hx).2; simp at this; omega) (by rw [← zjx hs a, List.length_drop]; omega) y sl' pf h' hrow' hm1 hsub (Nat.lt_of_lt_of_le hpf hf.next) hgf' Inv Stop n0 (Nat.le_trans hn0 hf.next) hst hy
    (P := P) (fun h'' hf2 hv => hP h'' ⟨Nat.le_trans hf.next hf2.next, fun i hi hm => (hf2.get i (Nat.lt_of_lt_of_le hi hf.next) hm).trans (hf.get i hi)⟩ hv) (outs es a).length 0 h' (by omega) (hst _ _ _ hI hf) (.refl _ _)
  refine OkV.eq (this.lp (l_z_0 F _ _ _ _ _ _)) ?_
  have hsl3 := hsl h' (Nat.le_refl _) (fun _ _ => rfl)
  subst hsl2
  simp (disch := omega) [hgg', hsl3]
end Go.Ideal.J
namespace Go.Ideal.J
open Go Go.Ideal
abbrev leadsV (pg pf pl : Nat) : Value := .func (.func n_E) ⟨[]⟩ ⟨[ptr pg, ptr pf, ptr pl]⟩
theorem leads_ok (g a l : Value) (h : H) : zbs F (fnV n_B) [g, a, l] h = some (leadsV h.next (h.next + 1) (h.next + 1 + 1), ((h.new (.cells (zj g) 0)).new (.cells (zj a) 0)).new (.cells (zj l) 0)) := by
  refine zbi F_B 3 (by decide) ?_
  rw [s_B]
  simp
def tos (es : List Ed) (a lab : Int) : List Int := ((outs es a).filter fun x => decide (x.2.2 = lab)).map fun x => x.2.1
def cnt (l : List Ed) (lab : Int) (i : Nat) : Nat := ((l.take i).filter fun x => decide (x.2.2 = lab)).length
theorem cnt_succ {l : List Ed} {lab : Int} {i : Nat} {x : Ed} (h : l[i]? = some x) : cnt l lab (i + 1) = cnt l lab i + if x.2.2 = lab then 1 else 0 := by
  unfold cnt
  rw [List.take_add_one, h]
  simp only [Option.toList_some, List.filter_append, List.length_append]
  congr 1
  by_cases e : x.2.2 = lab <;> simp [e]
theorem cnt_get {l : List Ed} {lab : Int} {i : Nat} {x : Ed} (h : l[i]? = some x) (e : x.2.2 = lab) : (l.filter fun x => decide (x.2.2 = lab))[cnt l lab i]? = some x := by
  have hl : i < l.length := by
    rcases Nat.lt_or_ge i l.length with h' | h'
    · exact h'
    · rw [List.getElem?_eq_none h'] at h; cases h
  have hd : l.drop i = x :: l.drop (i + 1) := by
    rw [List.drop_eq_getElem_cons hl]
    rw [List.getElem?_eq_getElem hl] at h; cases h; rfl
  have : l.filter (fun x => decide (x.2.2 = lab)) = (l.take i).filter (fun x => decide (x.2.2 = lab)) ++ (l.drop i).filter (fun x => decide (x.2.2 = lab)) := by
    rw [← List.filter_append, List.take_append_drop]
  rw [this, hd]
  unfold cnt
  rw [List.getElem?_append_right (Nat.le_refl _)]
  simp [e]
theorem leads_run (es : List Ed) (hs : zbu es) (hsz : es.length ≤ 1000) (a lab st lb : Int) (y : Value) (hyc : zS y = true) (hyi : zbb y = true) (hyl : zj y = [y]) (sl : Value) (pg pf pl : Nat) (h0 : H) {M : Nat → Prop} (hM : ∀ i, M i → i < h0.next ∨ h0.next + 4 ≤ i) (hrow : Row h0 3 sl (es.map edL))
    (hm0 : ¬ M pg) (hm1 : ¬ M pf) (hm3 : ¬ M pl) (hm2 : ∀ b o n c, sl = .slice (some ⟨b, o, none⟩) n c → ¬ M b) (hpg : pg < h0.next) (hgg : h0.get pg = some (.cells (gL st lb sl) 0)) (hpf : pf < h0.next) (hgf : h0.get pf = some (.cells [.int .i64 a] 0)) (hpl : pl < h0.next) (hgl : h0.get pl = some (.cells [.int .i64 lab] 0)) (Inv : Nat → H → Prop) (Stop : H → Prop)
    (hst : ∀ i h1 h2, Inv i h1 → FrD (fun j => j = h0.next + 3) h1 h2 → Inv i h2) (hstS : ∀ h1 h2, Stop h1 → FrD (fun j => j = h0.next + 3) h1 h2 → Stop h2)
    (hy : YOk F y ((tos es a lab).map fun t => .int .i64 t) M (h0.next + 4) Inv Stop) (hI : Inv 0 h0) {P : Value → H → Prop} (hP : ∀ h', FrD M h0 h' → (Inv (tos es a lab).length h' ∨ Stop h') → P (.tuple #[]) h') :
    Ret F (leadsV pg pf pl) [y] h0 P := by
  refine Ret.clo F_E 4 (by decide) ?_
  show OkV (zn (rI F) 4 f_E [y, ptr pg, ptr pf, ptr pl] h0) P
  obtain ⟨base0, c0, hsl0⟩ := hrow.lenM
  subst hsl0
  rw [s_E]
  simp (disch := omega) [hgg, hgf, steps_ok, hyl]
  obtain ⟨l, hl⟩ : ∃ l, l = h0.next + 1 + 1 + 1 := ⟨_, rfl⟩
  obtain ⟨hh, ehh⟩ : ∃ hh, hh = ((((h0.new (.cells [y] 0)).new (.cells [.int .i64 st, .int .i64 lb, .slice base0 es.length c0] 0)).new (.cells [.int .i64 a] 0)).new (.loop .ready none (setL [p3, p4] [ptr pl, ptr h0.next]) zd9)) := ⟨_, rfl⟩
  rw [← hl, ← ehh]
  have hf0 : Fr h0 hh := by rw [ehh]; exact (((Fr.new _ _).newR _).newR _).newR _
  have hnx : hh.next = h0.next + 4 := by rw [ehh]; simp
  have gl : hh.get l = some (.loop .ready none (setL [p3, p4] [ptr pl, ptr h0.next]) zd9) := by rw [ehh]; simp (disch := omega) [hl]
  have gy : hh.get h0.next = some (.cells [y] 0) := by rw [ehh]; simp (disch := omega)
  have gp : hh.get pl = some (.cells [.int .i64 lab] 0) := (hf0.get _ hpl).trans hgl
  have gg : hh.get (h0.next + 1) = some (.cells (gL st lb (.slice base0 es.length c0)) 0) := by rw [ehh]; simp (disch := omega)
  have gf : hh.get (h0.next + 1 + 1) = some (.cells [.int .i64 a] 0) := by rw [ehh]; simp (disch := omega)
  have nM : ∀ j, h0.next ≤ j → j < h0.next + 4 → ¬ M j := fun j hj hk hm => by have := hM j hm; omega
  have hstL : ∀ {h1 h2 : H}, FrD (fun j => j = l) h1 h2 → FrD (fun j => j = h0.next + 3) h1 h2 := fun h => h.mono fun i _ e => by omega
  refine OkV.call (zhB es hs hsz a st lb (.func (.yield l) #[] #[]) (.slice base0 es.length c0) (h0.next + 1) (h0.next + 1 + 1) hh (M := fun j => M j ∨ j = l) (hrow.fr hf0) ?_ ?_ ?_ (by omega) gg (by omega) gf
    (fun i h => Inv (cnt (outs es a) lab i) h ∧ h.get l = some (.loop .ready none (setL [p3, p4] [ptr pl, ptr h0.next]) zd9) ∧ h.get pl = some (.cells [.int .i64 lab] 0) ∧ h.get h0.next = some (.cells [y] 0) ∧ hh.next ≤ h.next)
    (fun h => Stop h ∧ h.get l = some (.loop .done (some .ret) (setL [p3, p4] [ptr pl, ptr h0.next]) zd9)) hh.next (Nat.le_refl _) ?_ ?_ ?_
    (P := fun _ h' => FrD (fun j => M j ∨ j = l) hh h' ∧ ((Inv (tos es a lab).length h' ∧ h'.get l = some (.loop .ready none (setL [p3, p4] [ptr pl, ptr h0.next]) zd9)) ∨ (Stop h' ∧ h'.get l = some (.loop .done (some .ret) (setL [p3, p4] [ptr pl, ptr h0.next]) zd9)))) ?_) ?_
  · rintro (h | h)
    · exact nM _ (by omega) (by omega) h
    · omega
  · rintro (h | h)
    · exact nM _ (by omega) (by omega) h
    · omega
  · rintro b o n c e (h | h)
    · exact hm2 b o n c e h
    · subst h
      have := hrow.lt e
      omega
  · rintro i h1 h2 ⟨i1, i2, i3, i4, i5⟩ hf
    refine ⟨hst _ _ _ i1 hf.D, (hf.get _ (by omega)).trans i2, (hf.get _ (by omega)).trans i3, (hf.get _ (by omega)).trans i4, Nat.le_trans i5 hf.next⟩
  · rintro i v h1 hv ⟨i1, i2, i3, i4, i5⟩ hn
    rw [List.getElem?_map] at hv
    obtain ⟨x, hx, rfl⟩ := Option.map_eq_some_iff.1 hv
    refine Ret.round i2 ?_
    rw [s_E_0]
    simp (disch := omega)
    rw [zhr (by rw [zbV (by omega)]; exact i2), s_E_1]
    simp (disch := omega) [i3, i4]
    by_cases e : x.2.2 = lab
    · have hc := cnt_get hx e
      have hc' : ((tos es a lab).map fun t => Value.int .i64 t)[cnt (outs es a) lab i]? = some (.int .i64 x.2.1) := by
        unfold tos; rw [List.getElem?_map, List.getElem?_map, hc]; rfl
      have := hy _ _ ((h1.new (.cells (edL x) 0)).put l (.loop .busy none (setL [p3, p4] [ptr pl, ptr h0.next]) zd9)) hc' (hst _ _ _ i1 (hstL (((FrD.refl _ _).new _).put (D := fun j => j = l) (.inr rfl) _))) (by simp; omega)
      obtain ⟨x1, x2, x3⟩ := x
      obtain rfl : x3 = lab := e
      have hcs := cnt_succ (lab := x3) hx
      rw [if_pos rfl] at hcs
      simp (disch := omega)
      refine OkV.call this ?_
      rintro v h' ⟨hf, hv'⟩
      have hfl : FrD (fun j => M j ∨ j = l) h1 h' := (((FrD.refl _ _).new _).put (D := fun j => M j ∨ j = l) (.inr (.inr rfl)) _).trans (hf.mono fun _ _ h => .inl h)
      have gl' : h'.get l = some (.loop .busy none (setL [p3, p4] [ptr pl, ptr h0.next]) zd9) := by
        rw [hf.get _ (by simp; omega) (nM _ (by omega) (by omega)), zw rfl]
      have gp' : h'.get pl = some (.cells [.int .i64 x3] 0) := (hfl.get _ (by omega) (fun h => h.elim hm3 (by omega))).trans i3
      have gy' : h'.get h0.next = some (.cells [y] 0) := (hfl.get _ (by omega) (fun h => h.elim (nM _ (Nat.le_refl _) (by omega)) (by omega))).trans i4
      have hn' := hfl.next
      rcases hv' with ⟨rfl, hI'⟩ | ⟨rfl, hS⟩
      · simp [zeS gl']
        refine OkV.val ⟨hfl.put (.inr (.inr rfl)) _, .inl ⟨rfl, ?_, by simp, ?_, ?_, by simp; omega⟩⟩
        · rw [hcs]; exact hst _ _ _ hI' (hstL ((FrD.refl _ _).put (D := fun j => j = l) (.inr rfl) _))
        · rw [zo (by omega)]; exact gp'
        · rw [zo (by omega)]; exact gy'
      · simp [fin_some gl']
        exact OkV.val ⟨hfl.put (.inr (.inr rfl)) _, .inr ⟨rfl, hstS _ _ hS (hstL ((FrD.refl _ _).put (D := fun j => j = l) (.inr rfl) _)), by simp⟩⟩
    · have hcs := cnt_succ (lab := lab) hx
      rw [if_neg e] at hcs
      have gl' : ((h1.new (.cells (edL x) 0)).put l (.loop .busy none (setL [p3, p4] [ptr pl, ptr h0.next]) zd9)).get l = some (.loop .busy none (setL [p3, p4] [ptr pl, ptr h0.next]) zd9) := zw rfl
      simp (disch := omega) [e, zeS gl', put_put]
      have hfl : FrD (fun j => M j ∨ j = l) h1 ((h1.new (.cells (edL x) 0)).put l (.loop .ready none (setL [p3, p4] [ptr pl, ptr h0.next]) zd9)) := ((FrD.refl _ _).new _).put (.inr (.inr rfl)) _
      refine OkV.val ⟨hfl, .inl ⟨rfl, ?_, by simp, ?_, ?_, by simp; omega⟩⟩
      · rw [hcs]; exact hst _ _ _ i1 (hstL (((FrD.refl _ _).new _).put (D := fun j => j = l) (.inr rfl) _))
      · rw [zo (by omega), zbV (by omega)]; exact i3
      · rw [zo (by omega), zbV (by omega)]; exact i4
  · exact ⟨hst _ _ _ (by simpa [cnt] using hI) hf0.D, gl, gp, gy, Nat.le_refl _⟩
  · intro h' hf hv
    have ec : cnt (outs es a) lab (outs es a).length = (tos es a lab).length := by unfold cnt tos; simp
    refine ⟨hf, ?_⟩
    rcases hv with ⟨i1, i2, _⟩ | ⟨i1, i2⟩
    · exact .inl ⟨ec ▸ i1, i2⟩
    · exact .inr ⟨i1, i2⟩
  · rintro v h' ⟨hf, hv⟩
    have hfM : ∀ {o : IObj}, FrD M h0 (h'.put l o) := fun {o} => ⟨Nat.le_trans hf0.next hf.next, fun i hi hm => by
      rw [zo (by omega)]; exact (hf.get i (by omega) (fun h => h.elim hm (by omega))).trans (hf0.get i hi)⟩
    rcases hv with ⟨i1, i2⟩ | ⟨i1, i2⟩
    · rw [zfH i2]
      exact OkV.val (hP _ hfM (.inl (hst _ _ _ i1 (hstL ((FrD.refl _ _).put (D := fun j => j = l) (.inr rfl) _)))))
    · rw [rgP_ret i2]
      exact OkV.val (hP _ hfM (.inr (hstS _ _ i1 (hstL ((FrD.refl _ _).put (D := fun j => j = l) (.inr rfl) _)))))
end Go.Ideal.J
namespace Go.Ideal.J
open Go Go.Ideal
abbrev inL (v : Int) : List Value := [.int .i64 v]
theorem index_loop (vs : List Int) (hsz : vs.length ≤ 100000) (v : Int) (sl : Value) (h : H) (hrow : Row h 1 sl (vs.map inL)) {P : Value → H → Prop} (hP : ∀ r : Int, (0 ≤ r ↔ v ∈ vs) → P (.int .i64 r) h) : ∀ (n i : Nat), i + n = vs.length → v ∉ vs.take i →
    OkV (sh (rI F) zg3 (K_j_1 (rI F)) (setL [p0, p1, p7, p8] [sl, .int .i64 v, .int .i64 (vs.length : Int), .int .i64 (i : Int)]) h) P := by
  intro n
  induction n with
  | zero =>
    intro i hi hn
    rw [s_j_1]
    have e : i = vs.length := by omega
    subst e
    rw [List.take_length] at hn
    refine OkV.eq (OkV.val (hP (-1) (by simp [hn]))) ?_
    simp [s_j_0]
  | succ n ih =>
    intro i hi hn
    rw [s_j_1]
    have hil : i < vs.length := by omega
    have hx : (vs.map inL)[i]? = some (inL vs[i]) := by simp [hil]
    obtain ⟨b, o, cs, e, hv, hb, hg, ht⟩ := hrow.index hx
    by_cases hxv : v = vs[i]
    · refine OkV.eq (OkV.val (hP (i : Int) (by simp [hxv]))) ?_
      rw [← hxv] at ht
      simp (disch := omega) [hil, hv, hg, ht]
    · have := ih (i + 1) (by omega) (by rw [List.take_add_one, List.getElem?_eq_getElem hil, Option.toList_some, List.mem_append, List.mem_singleton]; exact fun h => h.elim hn hxv)
      refine OkV.eq (this.lp (l_j_1 F _ _ _ _ _)) ?_
      generalize vs[i] = x at *
      simp (disch := omega) [hil, hv, hg, ht, hxv, zN]
theorem contains_ok (vs : List Int) (hsz : vs.length ≤ 100000) (v : Int) (sl : Value) (h : H) (hrow : Row h 1 sl (vs.map inL)) : zbs F (fnV n_y) [sl, .int .i64 v] h = some (.bool (decide (v ∈ vs)), h) := by
  have h1 : Ret F (fnV n_j) [sl, .int .i64 v] h fun u h' => (∃ r : Int, u = .int .i64 r ∧ (0 ≤ r ↔ v ∈ vs)) ∧ h' = h := by
    refine Ret.fn F_j 2 (by decide) ?_
    rw [s_j]
    have := index_loop vs hsz v sl h hrow (P := fun u h' => (∃ r : Int, u = .int .i64 r ∧ (0 ≤ r ↔ v ∈ vs)) ∧ h' = h) (fun r hr => ⟨⟨r, rfl, hr⟩, rfl⟩) vs.length 0 (by omega) (by simp)
    refine OkV.eq (this.lp (l_j_1 F _ _ _ _ _)) ?_
    obtain ⟨base, c, hsl⟩ := hrow.lenM
    subst hsl
    simp
  obtain ⟨u, h', e1, ⟨r, rfl, hr⟩, rfl⟩ := h1
  refine zbi F_y 2 (by decide) ?_
  rw [s_y]
  simp [e1, hr]
def zba (vs : List Int) : List Int → List Int
  | [] => vs
  | t :: l => zba (if t ∈ vs then vs else vs ++ [t]) l
theorem zgJ : ∀ (l : List Int) (vs : List Int) (t : Int), zba vs (l ++ [t]) = if t ∈ zba vs l then zba vs l else zba vs l ++ [t]
  | [], vs, t => rfl
  | x :: l, vs, t => zgJ l _ t
theorem zcd : ∀ (l : List Int) (vs : List Int) (t : Int), t ∈ zba vs l ↔ t ∈ vs ∨ t ∈ l
  | [], vs, t => by simp [zba]
  | x :: l, vs, t => by
    show t ∈ zba (if x ∈ vs then vs else vs ++ [x]) l ↔ _
    rw [zcd l]
    split
    · rename_i hx
      constructor
      · rintro (h | h)
        · exact .inl h
        · exact .inr (by simp [h])
      · rintro (h | h)
        · exact .inl h
        · rcases List.mem_cons.1 h with rfl | h
          · exact .inl hx
          · exact .inr h
    · simp only [List.mem_append, List.mem_cons, or_assoc, List.not_mem_nil, false_or]
theorem zfK : ∀ (l : List Int) (vs : List Int), vs.Nodup → (zba vs l).Nodup
  | [], vs, h => h
  | x :: l, vs, h => by
    refine zfK l _ ?_
    split
    · exact h
    · rename_i hx
      rw [List.nodup_append]
      exact ⟨h, by simp, fun a ha b hb => by simp at hb; subst hb; intro e; exact hx (e ▸ ha)⟩
theorem zhM : ∀ (l : List Int) (vs : List Int), ∃ r, zba vs l = vs ++ r
  | [], vs => ⟨[], by simp [zba]⟩
  | x :: l, vs => by
    obtain ⟨r, hr⟩ := zhM l (if x ∈ vs then vs else vs ++ [x])
    show ∃ r, zba (if x ∈ vs then vs else vs ++ [x]) l = vs ++ r
    rw [hr]
    split
    · exact ⟨r, rfl⟩
    · exact ⟨x :: r, by simp⟩
theorem zcR {vs : List Int} {n : Nat} (h : vs.Nodup) (hb : ∀ v ∈ vs, 0 ≤ v ∧ v < n) : vs.length ≤ n := by
  have h2 : vs ⊆ (List.range n).map Int.ofNat := by
    intro v hv
    have := hb v hv
    rw [List.mem_map]
    exact ⟨v.toNat, by rw [List.mem_range]; omega, by show ((v.toNat : Nat) : Int) = v; omega⟩
  have := List.Nodup.length_le_of_subset h h2
  simpa using this
end Go.Ideal.J
namespace Go.Ideal.J
open Go Go.Ideal
abbrev zcE (bs : List Bool) : List Value := bs.map .bool
abbrev slF (q n : Nat) : Value := .slice (some ⟨q, 0, none⟩) n n
def inB (st : Int) (es : List Ed) : Prop := ∀ x ∈ es, 0 ≤ x.1 ∧ x.1 < st ∧ 0 ≤ x.2.1 ∧ x.2.1 < st
end Go.Ideal.J
namespace Go.Ideal.J
open Go Go.Ideal
end Go.Ideal.J
namespace Go.Ideal.J
open Go Go.Ideal
inductive Sil (es : List Ed) (a : Nat) : Nat → Prop
  | refl : Sil es a a
  | step {x : Ed} (h : Sil es a x.1.toNat) (hx : x ∈ es) (h0 : x.2.2 = 0) : Sil es a x.2.1.toNat
end Go.Ideal.J
namespace Go.Ideal.J
open Go Go.Ideal
end Go.Ideal.J
namespace Go.Ideal.J
open Go Go.Ideal
theorem zcf {es : List Ed} {a lab t : Int} : t ∈ tos es a lab ↔ ∃ x ∈ es, x.1 = a ∧ x.2.2 = lab ∧ x.2.1 = t := by
  unfold tos outs
  constructor
  · intro h
    obtain ⟨x, hx, rfl⟩ := List.mem_map.1 h
    obtain ⟨h1, h2⟩ := List.mem_filter.1 hx
    obtain ⟨h3, h4⟩ := List.mem_filter.1 h1
    exact ⟨x, h3, by simpa using h4, by simpa using h2, rfl⟩
  · rintro ⟨x, hx, h1, h2, rfl⟩
    exact List.mem_map.2 ⟨x, List.mem_filter.2 ⟨List.mem_filter.2 ⟨hx, by simpa using h1⟩, by simpa using h2⟩, rfl⟩
end Go.Ideal.J
namespace Go.Ideal.J
open Go Go.Ideal
end Go.Ideal.J
namespace Go.Ideal.J
open Go Go.Ideal
structure ziC (h : H) (B : Nat) (bl : List Nat) (lo hi N : Nat) (T : Nat → Nat → Prop) : Prop where
  get : h.get B = some (.cells (bl.map fun b => slF b N) 0)
  nd : bl.Nodup
  bnd : ∀ b ∈ bl, lo ≤ b ∧ b < hi
  row : ∀ (l b : Nat), bl[l]? = some b → ∃ bs : List Bool, h.get b = some (.cells (zcE bs) 0) ∧ bs.length = N ∧ ∀ c, bs[c]? = some true ↔ c < N ∧ T l c
  ltB : B < h.next
  out : B < lo
  hin : hi ≤ h.next
theorem ziC.fr {D : Nat → Prop} {h h' : H} {B : Nat} {bl : List Nat} {lo hi N : Nat} {T : Nat → Nat → Prop} (t : ziC h B bl lo hi N T) (hf : FrD D h h') (hB : ¬ D B) (hb : ∀ b, lo ≤ b → b < hi → ¬ D b) : ziC h' B bl lo hi N T where
  get := (hf.get _ t.ltB hB).trans t.get
  nd := t.nd
  bnd := t.bnd
  row := fun l b e => by
    obtain ⟨bs, h1, h2, h3⟩ := t.row l b e
    have := t.bnd b (List.mem_of_getElem? e)
    have := t.hin
    exact ⟨bs, (hf.get _ (by omega) (hb b (by omega) (by omega))).trans h1, h2, h3⟩
  ltB := Nat.lt_of_lt_of_le t.ltB hf.next
  out := t.out
  hin := Nat.le_trans t.hin hf.next
theorem ziC.set {h : H} {B : Nat} {bl : List Nat} {lo hi N : Nat} {T : Nat → Nat → Prop} (t : ziC h B bl lo hi N T) {l c b : Nat} (hl : bl[l]? = some b) (hc : c < N) {bs : List Bool} (hg : h.get b = some (.cells (zcE bs) 0)) : ziC (h.put b (.cells (zcE (bs.set c true)) 0)) B bl lo hi N (fun l' c' => T l' c' ∨ (l' = l ∧ c' = c)) where
  get := by
    have := t.bnd b (List.mem_of_getElem? hl)
    have := t.out
    rw [zo (by omega)]; exact t.get
  nd := t.nd
  bnd := t.bnd
  row := fun l' b' e => by
    obtain ⟨bs', h1, h2, h3⟩ := t.row l' b' e
    by_cases eb : b' = b
    · subst eb
      have el : l' = l := by
        have hl1 : l' < bl.length := by
          rcases Nat.lt_or_ge l' bl.length with h' | h'
          · exact h'
          · rw [List.getElem?_eq_none h'] at e; cases e
        have hl2 : l < bl.length := by
          rcases Nat.lt_or_ge l bl.length with h' | h'
          · exact h'
          · rw [List.getElem?_eq_none h'] at hl; cases hl
        rw [List.getElem?_eq_getElem hl1] at e
        rw [List.getElem?_eq_getElem hl2] at hl
        exact (List.getElem_inj t.nd).1 ((Option.some.inj e).trans (Option.some.inj hl).symm)
      subst el
      rw [hg] at h1
      have e2 : bs = bs' := by
        have : zcE bs = zcE bs' := (IObj.cells.inj (Option.some.inj h1)).1
        exact List.map_inj_right (fun _ _ h => by cases h; rfl) |>.1 this
      subst e2
      refine ⟨bs.set c true, zw rfl, by simpa using h2, fun c' => ?_⟩
      rw [List.getElem?_set]
      split
      · rename_i ec; subst ec
        simp [h2, hc]
      · rename_i ec
        rw [h3]
        constructor
        · rintro ⟨q1, q2⟩; exact ⟨q1, .inl q2⟩
        · rintro ⟨q1, q2 | q2⟩
          · exact ⟨q1, q2⟩
          · exact absurd q2.2.symm ec
    · refine ⟨bs', by rw [zo eb]; exact h1, h2, fun c' => (h3 c').trans ?_⟩
      have : l' ≠ l := by rintro rfl; rw [hl] at e; cases e; exact eb rfl
      constructor
      · rintro ⟨q1, q2⟩; exact ⟨q1, .inl q2⟩
      · rintro ⟨q1, q2 | q2⟩
        · exact ⟨q1, q2⟩
        · exact absurd q2.1 this
  ltB := t.ltB
  out := t.out
  hin := t.hin
theorem ziC.congr {h : H} {B : Nat} {bl : List Nat} {lo hi N : Nat} {T T' : Nat → Nat → Prop} (t : ziC h B bl lo hi N T) (e : ∀ l c, c < N → (T l c ↔ T' l c)) : ziC h B bl lo hi N T' where
  get := t.get
  nd := t.nd
  bnd := t.bnd
  row := fun l b el => by
    obtain ⟨bs', h1, h2, h3⟩ := t.row l b el
    refine ⟨bs', h1, h2, fun c => (h3 c).trans ?_⟩
    constructor
    · rintro ⟨q1, q2⟩; exact ⟨q1, (e l c q1).1 q2⟩
    · rintro ⟨q1, q2⟩; exact ⟨q1, (e l c q1).2 q2⟩
  ltB := t.ltB
  out := t.out
  hin := t.hin
theorem ziC.slice {h : H} {B : Nat} {bl : List Nat} {lo hi N : Nat} {T : Nat → Nat → Prop} (t : ziC h B bl lo hi N T) {l b : Nat} (hl : bl[l]? = some b) : zU 1 (zby l (bl.map fun b => slF b N)) = some [slF b N] := takeC_at (by rw [List.getElem?_map, hl]; rfl) rfl
end Go.Ideal.J
namespace Go.Ideal.J
open Go Go.Ideal
end Go.Ideal.J
namespace Go.Ideal.J
open Go Go.Ideal
end Go.Ideal.J
namespace Go.Ideal.J
open Go Go.Ideal
end Go.Ideal.J
namespace Go.Ideal.J
open Go Go.Ideal
end Go.Ideal.J
namespace Go.Ideal.J
open Go Go.Ideal
def W (es : List Ed) (n l c : Nat) : Prop := (l = 0 ∧ Sil es n c) ∨ ∃ x ∈ es, Sil es n x.1.toNat ∧ x.2.2 = (l : Int) ∧ Sil es x.2.1.toNat c
end Go.Ideal.J
namespace Go.Ideal.J
open Go Go.Ideal
end Go.Ideal.J
namespace Go.Ideal.J
open Go Go.Ideal
structure zeL (st lb : Int) (es : List Ed) : Prop where
  st1 : 1 ≤ st
  st2 : st ≤ 60
  lb1 : 1 ≤ lb
  lb2 : lb ≤ 41
  len : es.length ≤ 400
  ok : ∀ x ∈ es, 0 ≤ x.1 ∧ x.1 < st ∧ 0 ≤ x.2.1 ∧ x.2.1 < st ∧ 0 ≤ x.2.2 ∧ x.2.2 < lb
  next : ∀ i x y, es[i]? = some x → es[i + 1]? = some y → zbH x y = true
theorem zeL.inB {st lb : Int} {es : List Ed} (f : zeL st lb es) : inB st es := fun x hx => by have := f.ok x hx; exact ⟨this.1, this.2.1, this.2.2.1, this.2.2.2.1⟩
theorem zhX (a b : Ed) : zbH a b = true ↔ a.1 < b.1 ∨ (a.1 = b.1 ∧ (a.2.2 < b.2.2 ∨ (a.2.2 = b.2.2 ∧ a.2.1 < b.2.1))) := by
  unfold zbH
  by_cases h1 : a.1 = b.1
  · by_cases h2 : a.2.2 = b.2.2
    · simp [h1, h2]
    · simp [h1, h2]
  · simp [h1]
theorem zhV {a b c : Ed} (h1 : zbH a b = true) (h2 : zbH b c = true) : zbH a c = true := by
  rw [zhX] at *; omega
theorem zeL.sorted {st lb : Int} {es : List Ed} (f : zeL st lb es) : es.Pairwise fun x y => zbH x y = true := by
  have key : ∀ (l : List Ed), (∀ i x y, l[i]? = some x → l[i + 1]? = some y → zbH x y = true) → l.Pairwise fun x y => zbH x y = true := by
    intro l
    induction l with
    | nil => intro _; exact .nil
    | cons a l ih =>
      intro h
      have ihl := ih fun i x y hx hy => h (i + 1) x y (by simpa using hx) (by simpa using hy)
      refine List.pairwise_cons.2 ⟨?_, ihl⟩
      cases l with
      | nil => intro b hb; cases hb
      | cons b l =>
        have hab := h 0 a b rfl rfl
        intro c hc
        rcases List.mem_cons.1 hc with rfl | hc
        · exact hab
        · exact zhV hab ((List.pairwise_cons.1 ihl).1 c hc)
  exact key es f.next
theorem zeL.sortedF {st lb : Int} {es : List Ed} (f : zeL st lb es) : zbu es := f.sorted.imp fun h => by rw [zhX] at h; omega
theorem zgp (st lb : Int) (es : List Ed) : chk st lb es = true ↔ zeL st lb es := by
  have key : ∀ n, n ≤ es.length → (ckN st lb es n = true ↔ ∀ i, es.length - n ≤ i → okAt st lb es i = true) := by
    intro n
    induction n with
    | zero =>
      intro _
      constructor
      · intro _ i hi
        unfold okAt
        rw [List.getElem?_eq_none (by omega)]
      · intro _; rfl
    | succ n ih =>
      intro hn
      show (okAt st lb es (es.length - (n + 1)) && ckN st lb es n) = true ↔ _
      rw [Bool.and_eq_true, ih (by omega)]
      constructor
      · rintro ⟨h1, h2⟩ i hi
        by_cases e : i = es.length - (n + 1)
        · rw [e]; exact h1
        · exact h2 i (by omega)
      · intro h
        exact ⟨h _ (by omega), fun i hi => h i (by omega)⟩
  have key2 : (ckN st lb es es.length = true) ↔ ((∀ x ∈ es, 0 ≤ x.1 ∧ x.1 < st ∧ 0 ≤ x.2.1 ∧ x.2.1 < st ∧ 0 ≤ x.2.2 ∧ x.2.2 < lb) ∧ ∀ i x y, es[i]? = some x → es[i + 1]? = some y → zbH x y = true) := by
    rw [key es.length (Nat.le_refl _)]
    constructor
    · intro h
      refine ⟨fun x hx => ?_, fun i x y hx hy => ?_⟩
      · obtain ⟨i, hi⟩ := List.mem_iff_getElem?.1 hx
        have := h i (by omega)
        unfold okAt at this
        rw [hi] at this
        simp only [Bool.and_eq_true, Bool.not_eq_true', badE, Bool.or_eq_false_iff, decide_eq_false_iff_not] at this
        omega
      · have := h (i + 1) (by omega)
        unfold okAt at this
        rw [hy] at this
        simp only [Bool.and_eq_true, Nat.add_sub_cancel, hx] at this
        simpa using this.2
    · rintro ⟨h1, h2⟩ i _
      unfold okAt
      cases hx : es[i]? with
      | none => rfl
      | some x =>
        have hb := h1 x (List.mem_of_getElem? hx)
        have hbad : badE st lb x = false := by
          simp only [badE, Bool.or_eq_false_iff, decide_eq_false_iff_not]; omega
        simp only [hbad, Bool.not_false, Bool.true_and, Bool.or_eq_true, decide_eq_true_eq]
        by_cases e : i = 0
        · exact .inl e
        · right
          cases hy : es[i - 1]? with
          | none => rfl
          | some y => exact h2 (i - 1) y x hy (by rw [show i - 1 + 1 = i by omega]; exact hx)
  unfold chk
  simp only [Bool.and_eq_true, Bool.not_eq_true', Bool.or_eq_false_iff, decide_eq_false_iff_not, key2]
  constructor
  · rintro ⟨⟨⟨⟨⟨h1, h2⟩, h3⟩, h4⟩, h5⟩, h6, h7⟩
    exact ⟨by omega, by omega, by omega, by omega, by omega, h6, h7⟩
  · rintro ⟨h1, h2, h3, h4, h5, h6, h7⟩
    exact ⟨⟨⟨⟨⟨by omega, by omega⟩, by omega⟩, by omega⟩, by omega⟩, h6, h7⟩
abbrev zea (a b : Value) : Value := .tuple ⟨[a, b]⟩
end Go.Ideal.J
set_option maxRecDepth 100000
set_option maxHeartbeats 4000000
namespace Go.Proofs.Ytanaepeilcjhcaa
open Go.ChangeShapes Go.WideShapes Go.ChangeAt Go.RowKit Go.Ideal Go.Ideal.J
theorem Try.own : ownKnob Try.prog.godebug = none := by kernel_rfl
theorem Try.laidOut : laidOutB Try.prog = true := by kernel_rfl
theorem graph_in {H : Type} {enc : TypeId × Value → H} {W : World} {base b : Nat} {r : Reach} {spare : Nat → Bool} {held : Bool} {v : Value} {d : DataW H} {ps : List MemPlace} (hval : Value.okWide Try.prog W r base 24 v) (hd : DataW.Trod enc Try.prog W b spare held 24 v d ps) :
    ∃ (st lb : Int) (sl : Value) (es : List Ed), v = gV st lb sl ∧ okArg W v = true ∧ Row (impH W) 3 sl (es.map edL) := by
  unfold Value.okWide at hval
  rw [Try.underlying24] at hval
  obtain ⟨cs, rfl, hsz, ts, hts, _, hcell⟩ := hval
  obtain ⟨fuel, hd⟩ := hd
  have hcs : (Value.agg cs).cells.toList = cs.toList := rfl
  rw [hcs] at hd
  obtain ⟨xs, n, _, _, hl, hlen, hf⟩ := DataW.trod_struct Try.underlying24 hd
  have h3 : Try.prog.cellsOf 24 = 3 := by kernel_rfl
  have hi1 : Try.prog.cellsOf 3 = 1 := by kernel_rfl
  have hs1 : Try.prog.cellsOf 22 = 1 := by kernel_rfl
  have hE3 : Try.prog.cellsOf 58 = 3 := by kernel_rfl
  have hty : Try.prog.cellTypes Try.prog.depth 24 = some [3, 3, 22] := by kernel_rfl
  rw [hty] at hts
  cases hts
  rw [h3] at hl
  obtain ⟨c0, c1, c2, hc⟩ : ∃ c0 c1 c2, cs.toList = [c0, c1, c2] := by
    match cs.toList, hl with
    | [c0, c1, c2], _ => exact ⟨c0, c1, c2, rfl⟩
  rw [hc] at hf
  have e0 : DataW.trod enc Try.prog W b spare held n 3 (([c0, c1, c2].drop 0).take (Try.prog.cellsOf 3)) = xs[0]? := hf 0 _ rfl
  have e1 : DataW.trod enc Try.prog W b spare held n 3 (([c0, c1, c2].drop 1).take (Try.prog.cellsOf 3)) = xs[1]? := hf 1 _ rfl
  have e2 : DataW.trod enc Try.prog W b spare held n 22 (([c0, c1, c2].drop 2).take (Try.prog.cellsOf 22)) = xs[2]? := hf 2 _ rfl
  rw [hi1] at e0 e1
  rw [hs1] at e2
  obtain ⟨y0, y1, y2, rfl⟩ : ∃ y0 y1 y2, xs = [y0, y1, y2] := by
    match xs, hlen with
    | [y0, y1, y2], _ => exact ⟨y0, y1, y2, rfl⟩
  obtain ⟨st, rfl, _⟩ := zcY Try.underlying3 (show DataW.trod enc Try.prog W b spare held n 3 [c0] = some y0 from e0)
  obtain ⟨lb, rfl, _⟩ := zcY Try.underlying3 (show DataW.trod enc Try.prog W b spare held n 3 [c1] = some y1 from e1)
  have hcs' : cs = #[.int .i64 st, .int .i64 lb, c2] := by rw [← Array.toList_inj, hc]
  subst hcs'
  obtain ⟨u, hu, hok⟩ := hcell 2 c2 rfl
  cases hu
  obtain ⟨hokv, es, hrow⟩ := row_of_trod (α := Ed) (f := edL) (sz := 3) Try.underlying22 hE3 (by omega) (fun _ => rfl) (fun _ => rfl) (fun a v hv => by
      simp only [List.mem_cons, List.not_mem_nil, or_false] at hv
      rcases hv with rfl | rfl | rfl <;> rfl)
    (fun fuel cs y h => by
      obtain ⟨p, q, s, rfl⟩ := ints3_of_trod Try.underlying58 ⟨rfl, rfl⟩ ⟨rfl, rfl⟩ ⟨rfl, rfl⟩ Try.underlying3 Try.underlying3 Try.underlying3 hi1 hi1 hi1 hE3 h
      exact ⟨(p, q, s), rfl⟩) (slice_ok Try.underlying22 hok) (show DataW.trod enc Try.prog W b spare held n 22 [c2] = some y2 from e2)
  refine ⟨st, lb, c2, es, rfl, ?_, hrow⟩
  show ([.int .i64 st, .int .i64 lb, c2] : List Value).all (okV W) = true
  simp only [List.all_cons, List.all_nil, hokv, Bool.and_true]
  rfl
end Go.Proofs.Ytanaepeilcjhcaa
namespace Go.Proofs
open Go.Shelf
def Try.sortI_ren : Go.Shelf.Ren := ⟨fun | 6 => 73 | 15 => 83 | 14 => 82 | 28 => 93 | 29 => 94 | 20 => 85 | 21 => 86 | 22 => 87 | 23 => 88 | 24 => 89 | 25 => 90 | 26 => 91 | 27 => 92 | 46 => 103 | 47 => 104 | 48 => 105 | 49 => 106 | 50 => 107 | 57 => 111 | n => n, fun | 22 => 47 | 24 => 3 | 25 => 72 | 3 => 3 | 39 => 116 | 0 => 0 | 53 => 131 | 55 => 133 | 4 => 4 | 46 => 125 | 45 => 124 | 50 => 70 | 5 => 5 | 9 => 9 | 66 => 139 | 70 => 85 | 76 => 146 | 77 => 147 | n => n, fun | n => n⟩
theorem Try.sortI : Go.Proofs.SlLaysF.n6 Try.prog Try.sortI_ren := {
  mixed := by kernel_rfl
  f6 := ⟨Try.f73.name, by decide, Try.func73.trans (congrArg some (by kernel_rfl))⟩
  f14 := ⟨Try.f82.name, by decide, Try.func82.trans (congrArg some (by kernel_rfl))⟩
  f15 := Try.func83.trans (congrArg some (by kernel_rfl))
  f20 := ⟨Try.f85.name, by decide, Try.func85.trans (congrArg some (by kernel_rfl))⟩
  f21 := ⟨Try.f86.name, by decide, Try.func86.trans (congrArg some (by kernel_rfl))⟩
  f22 := ⟨Try.f87.name, by decide, Try.func87.trans (congrArg some (by kernel_rfl))⟩
  f23 := ⟨Try.f88.name, by decide, Try.func88.trans (congrArg some (by kernel_rfl))⟩
  f24 := ⟨Try.f89.name, by decide, Try.func89.trans (congrArg some (by kernel_rfl))⟩
  f25 := ⟨Try.f90.name, by decide, Try.func90.trans (congrArg some (by kernel_rfl))⟩
  f26 := ⟨Try.f91.name, by decide, Try.func91.trans (congrArg some (by kernel_rfl))⟩
  f27 := ⟨Try.f92.name, by decide, Try.func92.trans (congrArg some (by kernel_rfl))⟩
  f28 := Try.func93.trans (congrArg some (by kernel_rfl))
  f29 := Try.func94.trans (congrArg some (by kernel_rfl))
  f46 := ⟨Try.f103.name, by decide, Try.func103.trans (congrArg some (by kernel_rfl))⟩
  f47 := Try.func104.trans (congrArg some (by kernel_rfl))
  f48 := Try.func105.trans (congrArg some (by kernel_rfl))
  f49 := ⟨Try.f106.name, by decide, Try.func106.trans (congrArg some (by kernel_rfl))⟩
  f50 := ⟨Try.f107.name, by decide, Try.func107.trans (congrArg some (by kernel_rfl))⟩
  f57 := ⟨Try.f111.name, by decide, Try.func111.trans (congrArg some (by kernel_rfl))⟩
  t0 := Try.underlying0
  a0 := Try.isAgg0
  z0 := Try.sizeOf0
  v0 := Try.zeroValue0
  t3 := Try.underlying3
  a3 := Try.isAgg3
  z3 := Try.sizeOf3
  v3 := Try.zeroValue3
  t4 := Try.underlying4
  a4 := Try.isAgg4
  z4 := Try.sizeOf4
  v4 := Try.zeroValue4
  t5 := Try.underlying5
  a5 := Try.isAgg5
  z5 := Try.sizeOf5
  v5 := Try.zeroValue5
  t9 := Try.underlying9
  a9 := Try.isAgg9
  z9 := Try.sizeOf9
  v9 := Try.zeroValue9
  t22 := Try.underlying47
  a22 := Try.isAgg47
  z22 := Try.sizeOf47
  v22 := Try.zeroValue47
  a24 := Try.isAgg3
  z24 := Try.sizeOf3
  t25 := Try.underlying72
  a25 := Try.isAgg72
  z25 := Try.sizeOf72
  v25 := Try.zeroValue72
  t39 := Try.underlying116
  a39 := Try.isAgg116
  z39 := Try.sizeOf116
  v39 := Try.zeroValue116
  t45 := Try.underlying124
  a45 := Try.isAgg124
  z45 := Try.sizeOf124
  v45 := Try.zeroValue124
  t46 := Try.underlying125
  a46 := Try.isAgg125
  z46 := Try.sizeOf125
  v46 := Try.zeroValue125
  t50 := Try.underlying70
  a50 := Try.isAgg70
  z50 := Try.sizeOf70
  v50 := Try.zeroValue70
  t53 := Try.underlying131
  a53 := Try.isAgg131
  z53 := Try.sizeOf131
  v53 := Try.zeroValue131
  t55 := Try.underlying133
  a55 := Try.isAgg133
  z55 := Try.sizeOf133
  v55 := Try.zeroValue133
  t66 := Try.underlying139
  a66 := Try.isAgg139
  z66 := Try.sizeOf139
  v66 := Try.zeroValue139
  t70 := Try.underlying85
  a70 := Try.isAgg85
  z70 := Try.sizeOf85
  v70 := Try.zeroValue85
  t76 := Try.underlying146
  a76 := Try.isAgg146
  z76 := Try.sizeOf146
  v76 := Try.zeroValue146
  t77 := Try.underlying147
  a77 := Try.isAgg147
  z77 := Try.sizeOf147
  v77 := Try.zeroValue147 }
def Try.sortE_ren : Go.Shelf.Ren := ⟨fun | 6 => 78 | 15 => 83 | 14 => 84 | 28 => 93 | 29 => 94 | 20 => 95 | 21 => 96 | 22 => 97 | 23 => 98 | 24 => 99 | 25 => 100 | 26 => 101 | 27 => 102 | 46 => 108 | 47 => 104 | 48 => 105 | 49 => 109 | 50 => 110 | 57 => 112 | n => n, fun | 22 => 22 | 24 => 58 | 25 => 59 | 3 => 3 | 39 => 116 | 0 => 0 | 53 => 131 | 55 => 133 | 4 => 4 | 46 => 125 | 45 => 124 | 50 => 70 | 5 => 5 | 9 => 9 | 66 => 139 | 70 => 85 | 76 => 146 | 77 => 147 | n => n, fun | n => n⟩
theorem Try.sortE : Go.Proofs.SlLaysF0.n6 Try.prog Try.sortE_ren := {
  mixed := by kernel_rfl
  f6 := ⟨Try.f78.name, by decide, Try.func78.trans (congrArg some (by kernel_rfl))⟩
  f14 := ⟨Try.f84.name, by decide, Try.func84.trans (congrArg some (by kernel_rfl))⟩
  f15 := Try.func83.trans (congrArg some (by kernel_rfl))
  f20 := ⟨Try.f95.name, by decide, Try.func95.trans (congrArg some (by kernel_rfl))⟩
  f21 := ⟨Try.f96.name, by decide, Try.func96.trans (congrArg some (by kernel_rfl))⟩
  f22 := ⟨Try.f97.name, by decide, Try.func97.trans (congrArg some (by kernel_rfl))⟩
  f23 := ⟨Try.f98.name, by decide, Try.func98.trans (congrArg some (by kernel_rfl))⟩
  f24 := ⟨Try.f99.name, by decide, Try.func99.trans (congrArg some (by kernel_rfl))⟩
  f25 := ⟨Try.f100.name, by decide, Try.func100.trans (congrArg some (by kernel_rfl))⟩
  f26 := ⟨Try.f101.name, by decide, Try.func101.trans (congrArg some (by kernel_rfl))⟩
  f27 := ⟨Try.f102.name, by decide, Try.func102.trans (congrArg some (by kernel_rfl))⟩
  f28 := Try.func93.trans (congrArg some (by kernel_rfl))
  f29 := Try.func94.trans (congrArg some (by kernel_rfl))
  f46 := ⟨Try.f108.name, by decide, Try.func108.trans (congrArg some (by kernel_rfl))⟩
  f47 := Try.func104.trans (congrArg some (by kernel_rfl))
  f48 := Try.func105.trans (congrArg some (by kernel_rfl))
  f49 := ⟨Try.f109.name, by decide, Try.func109.trans (congrArg some (by kernel_rfl))⟩
  f50 := ⟨Try.f110.name, by decide, Try.func110.trans (congrArg some (by kernel_rfl))⟩
  f57 := ⟨Try.f112.name, by decide, Try.func112.trans (congrArg some (by kernel_rfl))⟩
  t0 := Try.underlying0
  a0 := Try.isAgg0
  z0 := Try.sizeOf0
  v0 := Try.zeroValue0
  t3 := Try.underlying3
  a3 := Try.isAgg3
  z3 := Try.sizeOf3
  v3 := Try.zeroValue3
  t4 := Try.underlying4
  a4 := Try.isAgg4
  z4 := Try.sizeOf4
  v4 := Try.zeroValue4
  t5 := Try.underlying5
  a5 := Try.isAgg5
  z5 := Try.sizeOf5
  v5 := Try.zeroValue5
  t9 := Try.underlying9
  a9 := Try.isAgg9
  z9 := Try.sizeOf9
  v9 := Try.zeroValue9
  t22 := Try.underlying22
  a22 := Try.isAgg22
  z22 := Try.sizeOf22
  v22 := Try.zeroValue22
  t25 := Try.underlying59
  a25 := Try.isAgg59
  z25 := Try.sizeOf59
  v25 := Try.zeroValue59
  t39 := Try.underlying116
  a39 := Try.isAgg116
  z39 := Try.sizeOf116
  v39 := Try.zeroValue116
  t45 := Try.underlying124
  a45 := Try.isAgg124
  z45 := Try.sizeOf124
  v45 := Try.zeroValue124
  t46 := Try.underlying125
  a46 := Try.isAgg125
  z46 := Try.sizeOf125
  v46 := Try.zeroValue125
  t50 := Try.underlying70
  a50 := Try.isAgg70
  z50 := Try.sizeOf70
  v50 := Try.zeroValue70
  t53 := Try.underlying131
  a53 := Try.isAgg131
  z53 := Try.sizeOf131
  v53 := Try.zeroValue131
  t55 := Try.underlying133
  a55 := Try.isAgg133
  z55 := Try.sizeOf133
  v55 := Try.zeroValue133
  t66 := Try.underlying139
  a66 := Try.isAgg139
  z66 := Try.sizeOf139
  v66 := Try.zeroValue139
  t70 := Try.underlying85
  a70 := Try.isAgg85
  z70 := Try.sizeOf85
  v70 := Try.zeroValue85
  t76 := Try.underlying146
  a76 := Try.isAgg146
  z76 := Try.sizeOf146
  v76 := Try.zeroValue146
  t77 := Try.underlying147
  a77 := Try.isAgg147
  z77 := Try.sizeOf147
  v77 := Try.zeroValue147 }
end Go.Proofs
namespace Go.Ideal.J
open Go Go.Ideal Go.Proofs
theorem putRow_eq {α : Type} [Inhabited α] (enc : α → Value) (w : World) (blk off : Nat) (d : Array α) {c : Array Value} {t : TypeId} (hw : w.heap[blk]? = some (.cells c t (0, 0))) : Go.Sort.putRow enc w blk off d = { w with heap := w.heap.setIfInBounds blk (.cells (Go.Sort.putCells enc off d c) t (0, 0)) } := by
  unfold Go.Sort.putRow Go.Sort.mapBlock
  have : w.heap.modify blk (Go.Sort.onCells (Go.Sort.putCells enc off d)) = w.heap.setIfInBounds blk (.cells (Go.Sort.putCells enc off d c) t (0, 0)) := by
    apply Array.ext_getElem?
    intro k
    rw [Array.getElem?_modify, Array.getElem?_setIfInBounds]
    by_cases e : blk = k
    · subst e
      have hlt := (Array.getElem?_eq_some_iff.1 hw).1
      rw [if_pos rfl, if_pos rfl, if_pos hlt, hw]; rfl
    · rw [if_neg e, if_neg e]
  rw [this]
theorem zgI {α : Type} [Inhabited α] (enc : α → Value) (off : Nat) (d : Array α) (c : Array Value) {j : Nat} (hj : j < d.size) (hc : off + j < c.size) : (Go.Sort.putCells enc off d c)[off + j]? = some (enc d[j]!) := by
  unfold Go.Sort.putCells
  rw [Array.getElem?_mapIdx, Array.getElem?_eq_getElem hc, Option.map_some, if_pos ⟨by omega, by omega⟩, show off + j - off = j by omega]
theorem flat_get {α : Type} {enc : α → List Value} {k : Nat} (hk : 0 < k) (he : ∀ x, (enc x).length = k) : ∀ (l : List α) (j : Nat), (l.map enc).flatten[j]? = (l[j / k]?).bind fun x => (enc x)[j % k]?
  | [], j => by simp
  | a :: l, j => by
    rw [List.map_cons, List.flatten_cons]
    by_cases h : j < k
    · rw [List.getElem?_append_left (by rw [he]; exact h), Nat.div_eq_of_lt h, Nat.mod_eq_of_lt h]; rfl
    · have e1 : j / k = (j - k) / k + 1 := Nat.div_eq_sub_div hk (by omega)
      have e2 : j % k = (j - k) % k := Nat.mod_eq_sub_mod (by omega)
      rw [List.getElem?_append_right (by rw [he]; omega), he, flat_get hk he l, e1, e2]; rfl
def intL (x : Int) : List Value := [.int .i64 x]
def leI (x y : Int) : Bool := !ltOf cmpE y x
theorem ltI (x y : Int) : ltOf cmpE x y = decide (x < y) := by
  unfold ltOf cmpE
  by_cases h1 : x < y
  · simp [h1]
  · by_cases h2 : y < x <;> simp [h1, h2]
theorem leI_eq (x y : Int) : leI x y = decide (x ≤ y) := by
  unfold leI; rw [ltI, Bool.eq_iff_iff]; simp
theorem swoI : Go.Sort.SWO (ltOf cmpE) where
  irrefl x := by rw [ltI]; simp
  trans x y z h1 h2 := by rw [ltI] at *; simp at *; omega
  ntrans x y z h1 h2 := by rw [ltI] at *; simp at *; omega
theorem sortsI : Sorts Try.prog n_S n_C intL leI where
  ent := enters_of Try.func73 (by kernel_rfl) rfl
  nil := fun p cap fv w => AnyF.slices_SortFunc_none (P := Try.prog) (ρ := Try.sortI_ren) { Try.sortI with } p cap fv w
  row := fun blk off cap l w c t hne hl hw hc => by
    have eg : ∀ args w, (callFunc n_C args).run Try.prog w = .ok (.enter n_C args) w := enters_of Try.func57 (by kernel_rfl) rfl
    have hflat : ∀ (l : List Int) (j : Nat), (l.map intL).flatten[j]? = (l[j]?).map (Value.int .i64) := fun l j => by
      rw [flat_get (enc := intL) (k := 1) (by omega) (fun _ => rfl), Nat.div_one, Nat.mod_one]
      cases l[j]? <;> rfl
    have hH : Go.Sort.Holds (Value.int .i64) w blk off l.toArray := fun j hj => by
      have hj' : j < l.length := by simpa using hj
      have := hc j (.int .i64 l[j]) (by rw [hflat, List.getElem?_eq_getElem hj']; rfl)
      refine ⟨?_, ?_⟩
      · simp only [World.cell?, hw]
        rw [getElem!_pos _ j hj]; simpa using this
      · simp [World.frozen?, hw]
    refine (Any.slices_SortFunc_total Try.sortI (Value.int .i64) (fun _ => rfl) cmpE swoI n_C #[] blk off cap l.toArray w eg (fun m os dk hs x y => ?_) hH (Array.getElem?_eq_some_iff.1 hw).1 (by simpa using hl) (fun x y h1 h2 => by rw [ltI] at h1 h2; simp at h1 h2; omega)).mono ?_
    · exact lays_of_E Go.Ideal.X.hmix okFs (args := [.int .i64 x, .int .i64 y]) ⟨rfl, fun j a b ha hb => by
        rw [ha] at hb; cases hb
        match j, ha with
        | 0, ha => cases ha; exact .int _ _
        | 1, ha => cases ha; exact .int _ _⟩ (zgo x y H.empty) _
    · rintro e w' ⟨rfl, n, os, rfl⟩
      refine ⟨rfl, Go.Sort.putCells (Value.int .i64) off (l.mergeSort leI).toArray c, n, os, by simp [Go.Sort.putCells], fun j v hj => ?_, ?_⟩
      · rw [hflat] at hj
        obtain ⟨x, hx, rfl⟩ := Option.map_eq_some_iff.1 hj
        have hj' := (List.getElem?_eq_some_iff.1 hx).1
        rw [List.length_mergeSort] at hj'
        have := hc j (.int .i64 l[j]) (by rw [hflat, List.getElem?_eq_getElem hj']; rfl)
        rw [zgI _ _ _ _ (by simpa using hj') (Array.getElem?_eq_some_iff.1 this).1]
        congr 2
        rw [getElem!_pos _ j (by simpa using hj')]
        simpa using (List.getElem?_eq_some_iff.1 hx).2
      · have e : Go.Sort.putRow (Value.int .i64) (Go.Sort.ahead w n) blk off (l.mergeSort leI).toArray = Go.Sort.ahead { w with heap := w.heap.setIfInBounds blk (.cells (Go.Sort.putCells (Value.int .i64) off (l.mergeSort leI).toArray c) t (0, 0)) } n := putRow_eq _ (Go.Sort.ahead w n) _ _ _ hw
        show Go.Sort.grow (Go.Sort.putRow (Value.int .i64) (Go.Sort.ahead w n) blk off (l.toArray.toList.mergeSort leI).toArray) os = _
        rw [← e]
def leE (x y : Ed) : Bool := !ltOf cmpT y x
theorem ltT (x y : Ed) : ltOf cmpT x y = zbH x y := by
  have h := zih x y
  unfold ltOf
  cases h1 : zbH x y with
  | true =>
    have : ¬ (0 ≤ cmpT x y) := fun h2 => by rw [h.1 h2] at h1; cases h1
    simp; omega
  | false => have := h.2 h1; simp; omega
theorem swoE : Go.Sort.SWO (ltOf cmpT) where
  irrefl x := by rw [ltT]; unfold zbH; simp
  trans x y z h1 h2 := by
    rw [ltT] at *
    unfold zbH at *
    split at h1 <;> split at h2 <;> (try split at h1) <;> (try split at h2) <;> simp only [decide_eq_true_eq] at h1 h2 <;> split <;> (try split) <;> simp <;> omega
  ntrans x y z h1 h2 := by
    rw [ltT] at *
    unfold zbH at *
    split at h1 <;> split at h2 <;> (try split at h1) <;> (try split at h2) <;> simp only [decide_eq_false_iff_not] at h1 h2 <;> split <;> (try split) <;> simp <;> omega
theorem ltE_total (x y : Ed) (h1 : ltOf cmpT x y = false) (h2 : ltOf cmpT y x = false) : x = y := by
  rw [ltT] at h1 h2
  unfold zbH at h1 h2
  obtain ⟨a, b, c⟩ := x
  obtain ⟨d, e, f⟩ := y
  simp only at h1 h2
  split at h1 <;> split at h2 <;> (try split at h1) <;> (try split at h2) <;> simp only [decide_eq_false_iff_not] at h1 h2
  all_goals first
    | (exfalso; omega)
    | (have e1 : a = d := by omega
       have e2 : b = e := by omega
       have e3 : c = f := by omega
       rw [e1, e2, e3])
theorem sortsE : Sorts Try.prog n_O n_G edL leE where
  ent := enters_of Try.func78 (by kernel_rfl) rfl
  nil := fun p cap fv w => AnyF.slices_SortFunc_none (P := Try.prog) (ρ := Try.sortE_ren) Try.sortE p cap fv w
  row := fun blk off cap l w c t hne hl hw hc => by
    have eg : ∀ args w, (callFunc n_G args).run Try.prog w = .ok (.enter n_G args) w := enters_of Try.func33 (by kernel_rfl) rfl
    have hflat : ∀ (l : List Ed) (j : Nat), j < l.length * 3 → (l.map edL).flatten[j]? = some (Go.Sort.flatK edL 3 l.toArray)[j]! := fun l j hj => by
      rw [flat_get (enc := edL) (k := 3) (by omega) (fun _ => rfl), Go.Sort.get_flatK _ _ _ _ (by simpa using hj)]
      have h3 : j / 3 < l.length := by omega
      rw [List.getElem?_eq_getElem h3, Option.bind_some, getElem!_pos _ (j / 3) (by simpa using h3)]
      have hm : j % 3 < (edL l[j / 3]).length := Nat.mod_lt _ (by omega)
      rw [List.getElem?_eq_getElem hm]
      congr 1
      have e : (l.toArray[j / 3]'(by simpa using h3)) = l[j / 3] := by simp
      rw [e, getElem!_pos _ (j % 3) hm]
    have hH : Go.Sort.HoldsK edL 3 w blk off l.toArray := fun j hj => by
      have hj' : j < l.length * 3 := by simpa using hj
      have := hc j _ (hflat l j hj')
      exact ⟨by simp only [World.cell?, hw]; simpa using this, by simp [World.frozen?, hw]⟩
    refine (AnyQ.slices_SortFunc_total Try.sortE 3 Try.isAgg58 Try.sizeOf58 edL (fun _ => rfl) (fun x v hv => ?_) cmpT swoE n_G #[] blk off cap l.toArray w eg (fun m os dk hs x y => ?_) hH (Array.getElem?_eq_some_iff.1 hw).1 (by simpa using hl) ltE_total).mono ?_
    · unfold edL at hv
      simp only [List.mem_cons, List.not_mem_nil, or_false] at hv
      rcases hv with rfl | rfl | rfl <;> rfl
    · have hV : ∀ x : Ed, VR (fun _ => none) (edV x) (edV x) := fun x => .agg rfl fun j a b ha hb => by
        rw [ha] at hb; cases hb
        match j, ha with
        | 0, ha => cases ha; exact .int _ _
        | 1, ha => cases ha; exact .int _ _
        | 2, ha => cases ha; exact .int _ _
      exact lays_of_E Go.Ideal.X.hmix okFs (args := [edV x, edV y]) ⟨rfl, fun j a b ha hb => by
        rw [ha] at hb; cases hb
        match j, ha with
        | 0, ha => cases ha; exact hV x
        | 1, ha => cases ha; exact hV y⟩ (zcB x y H.empty) _
    · rintro e w' ⟨rfl, n, os, rfl⟩
      refine ⟨rfl, Go.Sort.putCells id off (Go.Sort.flatK edL 3 (l.mergeSort leE).toArray) c, n, os, by simp [Go.Sort.putCells], fun j v hj => ?_, ?_⟩
      · have hj2 := (List.getElem?_eq_some_iff.1 hj).1
        rw [zbo (sz := 3) (fun _ => rfl), List.length_mergeSort] at hj2
        have := hc j _ (hflat l j hj2)
        rw [zgI _ _ _ _ (by simpa using hj2) (Array.getElem?_eq_some_iff.1 this).1]
        rw [hflat _ j (by rw [List.length_mergeSort]; exact hj2)] at hj
        simpa using hj
      · have e : Go.Sort.putRow id (Go.Sort.ahead w n) blk off (Go.Sort.flatK edL 3 (l.mergeSort leE).toArray) = Go.Sort.ahead { w with heap := w.heap.setIfInBounds blk (.cells (Go.Sort.putCells id off (Go.Sort.flatK edL 3 (l.mergeSort leE).toArray) c) t (0, 0)) } n := putRow_eq _ (Go.Sort.ahead w n) _ _ _ hw
        show Go.Sort.grow (Go.Sort.putRow id (Go.Sort.ahead w n) blk off (Go.Sort.flatK edL 3 (l.toArray.toList.mergeSort leE).toArray)) os = _
        rw [← e]
end Go.Ideal.J
set_option maxRecDepth 10000
set_option maxHeartbeats 2000000
namespace Go.Ideal
open Go
theorem zfh : ∀ (a m vs r : List Value), vs.length = m.length → zE (a ++ (m ++ r)) a.length vs = some (a ++ (vs ++ r))
  | [], m, vs, r, h => by
    induction vs generalizing m with
    | nil => have : m = [] := List.length_eq_zero_iff.1 h.symm
             subst this; rw [zfu] <;> rfl
    | cons v vs ih =>
      cases m with
      | nil => simp at h
      | cons x m =>
        show zE (x :: (m ++ r)) 0 (v :: vs) = _
        rw [zhv]
        have := ih m (by simpa using h)
        simp only [List.nil_append, List.length_nil] at this
        rw [this]; rfl
  | x :: a, m, vs, r, h => by
    cases vs with
    | nil => have : m = [] := List.length_eq_zero_iff.1 h.symm
             subst this; rw [zfu] <;> rfl
    | cons v vs =>
      show zE (x :: (a ++ (m ++ r))) (a.length + 1) (v :: vs) = _
      rw [zhw, zfh a m (v :: vs) r h]; rfl
structure Enc {α : Type} (enc : α → List Value) (sz : Nat) : Prop where
  pos : 0 < sz
  ro : sz ≠ roE
  len : ∀ x, (enc x).length = sz
  clean : ∀ x, (enc x).all zS = true
  cell : ∀ x, (enc x).all zbb = true
section
variable {α : Type} {enc : α → List Value} {sz : Nat} (E : Enc enc sz)
include E
theorem zdp {m : List α} {i : Nat} {x : α} (hi : m[i]? = some x) : (m.map enc).flatten = ((m.take i).map enc).flatten ++ (enc x ++ ((m.drop (i + 1)).map enc).flatten) ∧ ((m.take i).map enc).flatten.length = i * sz := by
  have hl := (List.getElem?_eq_some_iff.1 hi).1
  have e : m = m.take i ++ (x :: m.drop (i + 1)) := by
    conv => lhs; rw [← List.take_append_drop i m]
    rw [List.drop_eq_getElem_cons hl, (List.getElem?_eq_some_iff.1 hi).2]
  refine ⟨?_, by rw [zbo E.len, List.length_take, Nat.min_eq_left (by omega)]⟩
  conv => lhs; rw [e]
  rw [List.map_append, List.flatten_append, List.map_cons, List.flatten_cons]
theorem zcq {m : List α} {i : Nat} {x : α} (hi : m[i]? = some x) : zU sz (zby (i * sz) (m.map enc).flatten) = some (enc x) := by
  obtain ⟨h1, h2⟩ := zdp E hi
  rw [h1, ← h2, zem]
  exact zdi (E.clean x) (E.len x).symm
theorem zjr {m : List α} {i : Nat} (hi : i < m.length) (y : α) : zE (m.map enc).flatten (i * sz) (enc y) = some ((m.set i y).map enc).flatten := by
  obtain ⟨h1, h2⟩ := zdp E (List.getElem?_eq_getElem hi)
  have h3 : (m.set i y)[i]? = some y := by rw [List.getElem?_set, if_pos rfl, if_pos hi]
  obtain ⟨h4, h5⟩ := zdp E h3
  rw [h1, ← h2, zfh _ _ _ _ (by rw [E.len, E.len]), h4, List.take_set_of_le (Nat.le_refl _), List.drop_set_of_lt (by omega)]
theorem zh3 {m : List α} {k : Nat} (hk : k ≤ m.length) {z : List Value} (hz : z.length = sz) : zE (m.map enc).flatten (k * sz) (zl z (m.length - k)) = some (((m.take k).map enc).flatten ++ zl z (m.length - k)) := by
  have e : (m.map enc).flatten = ((m.take k).map enc).flatten ++ (((m.drop k).map enc).flatten ++ []) := by
    rw [List.append_nil, ← List.flatten_append, ← List.map_append, List.take_append_drop]
  have hl : ((m.take k).map enc).flatten.length = k * sz := by rw [zbo E.len, List.length_take, Nat.min_eq_left hk]
  have hr : ∀ n, (zl z n).length = n * sz := by
    intro n
    induction n with
    | zero => simp [zl]
    | succ n ih => show (z ++ zl z n).length = _; rw [List.length_append, ih, hz, Nat.succ_mul]; omega
  rw [e, ← hl, zfh _ _ _ _ (by rw [hr, zbo E.len, List.length_drop]), List.append_nil]
end
theorem zf6 {h : H} {b sz n k : Nat} {cs : List Value} (hs : 0 < sz) (hg : h.get b = some (.cells cs sz)) (hl : cs.length = n * sz) (hk : k ≤ n) : zbk sz h (some (.int .i64 (k : Int))) none (.slice (some ⟨b, 0, none⟩) n zk) = some (.slice (some ⟨b, k * sz, none⟩) (n - k) zk, h) := by
  unfold zbk; dsimp only
  rw [if_pos (by simp), Option.bind_some]
  dsimp only
  rw [hg, Option.bind_some]
  unfold zcN; dsimp only
  rw [if_pos (by simp [hs])]
  have : inB ((k : Nat) : Int) n = some k := by show (if Nat.ble k n = true then _ else _) = _; rw [if_pos (by simpa using hk)]
  simp only [zdr, Option.bind_some, this, Option.map_some, Nat.zero_add]
theorem slice_to {h : H} {b sz n k : Nat} {cs : List Value} (hs : 0 < sz) (hg : h.get b = some (.cells cs sz)) (hl : cs.length = n * sz) (hk : k ≤ n) : zbk sz h none (some (.int .i64 (k : Int))) (.slice (some ⟨b, 0, none⟩) n zk) = some (.slice (some ⟨b, 0, none⟩) k zk, h) := by
  unfold zbk; dsimp only
  rw [if_pos (by simp), Option.bind_some]
  dsimp only
  rw [hg, Option.bind_some]
  unfold zcN; dsimp only
  rw [if_pos (by simp [hs]), Nat.sub_zero, hl, Nat.mul_div_cancel _ hs]
  have : inB ((k : Nat) : Int) n = some k := by show (if Nat.ble k n = true then _ else _) = _; rw [if_pos (by simpa using hk)]
  simp only [zdr, Option.bind_some, this, Option.map_some]
  simp
theorem clear_eq {h h' : H} {b off n : Nat} {z cs cs' : List Value} {e : Nat} (hn : 0 < n) (hg : h.get b = some (.cells cs e)) (he : e ≠ roE) (hz : (zl z n).all zbb = true) (hw : zE cs off (zl z n) = some cs') : bltV h (.clear z) [.slice (some ⟨b, off, none⟩) n zk] = some (zD, h.put b (.cells cs' e)) := by
  show (if Nat.beq n 0 then _ else (h.write b off (zl z n)).map _) = _
  rw [if_neg (by simp; omega), zht hg, if_pos (by rw [hz, Bool.true_and]; simpa [← Nat.beq_eq] using he), hw]; rfl
section
variable {α : Type} [DecidableEq α]
def ddN (l : List α) : Nat → List α
  | 0 => []
  | n + 1 => if n ≠ 0 ∧ l[n]? = l[n - 1]? then ddN l n else ddN l n ++ l[n]?.toList
theorem ddN_s (l : List α) (n : Nat) : ddN l (n + 1) = if n ≠ 0 ∧ l[n]? = l[n - 1]? then ddN l n else ddN l n ++ l[n]?.toList := rfl
theorem ddN_len (l : List α) : ∀ n, (ddN l n).length ≤ n
  | 0 => Nat.le_refl _
  | n + 1 => by
    have := ddN_len l n
    rw [ddN_s]; split
    · omega
    · rw [List.length_append]; cases l[n]? <;> simp <;> omega
theorem zeU {l : List α} : ∀ {n : Nat}, n ≤ l.length → (∀ i, i < n → i ≠ 0 → l[i]? ≠ l[i - 1]?) → ddN l n = l.take n
  | 0, _, _ => by simp [ddN]
  | n + 1, hn, h => by
    rw [ddN_s, if_neg (fun h2 => h n (by omega) h2.1 h2.2), zeU (by omega) (fun i hi h0 => h i (by omega) h0), List.take_add_one]
theorem ddN_mem {l : List α} {x : α} : ∀ {n : Nat}, n ≤ l.length → (x ∈ ddN l n ↔ x ∈ l.take n)
  | 0, _ => by simp [ddN]
  | n + 1, hn => by
    have ih := ddN_mem (x := x) (l := l) (n := n) (by omega)
    rw [ddN_s, List.take_add_one, List.mem_append, ← ih]
    split
    · rename_i h
      exact ⟨.inl, fun h2 => by
        rcases h2 with h2 | h2
        · exact h2
        · rw [h.2] at h2
          rw [ih]
          obtain ⟨y, hy⟩ : ∃ y, l[n - 1]? = some y := ⟨_, List.getElem?_eq_getElem (by omega)⟩
          rw [hy] at h2
          simp at h2; subst h2
          exact List.mem_of_getElem? (i := n - 1) (by rw [List.getElem?_take, if_pos (by omega)]; exact hy)⟩
    · rw [List.mem_append]
theorem zgn {l : List α} {lt : α → α → Prop} (htr : ∀ a b c, lt a b → lt b c → lt a c) (hl : ∀ (i j : Nat) a b, i < j → l[i]? = some a → l[j]? = some b → lt a b ∨ a = b) : ∀ {n : Nat}, n ≤ l.length → (ddN l n).Pairwise lt
  | 0, _ => List.Pairwise.nil
  | n + 1, hn => by
    have ih := zgn htr hl (n := n) (by omega)
    rw [ddN_s]
    split
    · exact ih
    · rename_i h
      obtain ⟨y, hy⟩ : ∃ y, l[n]? = some y := ⟨_, List.getElem?_eq_getElem (by omega)⟩
      rw [hy]
      rw [List.pairwise_append]
      refine ⟨ih, by simp, fun a ha b hb => ?_⟩
      have hb : b = y := by simpa using hb
      rw [hb]
      have ha' := (ddN_mem (by omega)).1 ha
      obtain ⟨i, hi⟩ := List.mem_iff_getElem?.1 ha'
      have hin : i < n := by
        have := (List.getElem?_eq_some_iff.1 hi).1
        rw [List.length_take] at this; omega
      rw [List.getElem?_take, if_pos hin] at hi
      obtain ⟨z, hz⟩ : ∃ z, l[n - 1]? = some z := ⟨_, List.getElem?_eq_getElem (by omega)⟩
      have h1 : lt z y := by
        rcases hl (n - 1) n z y (by omega) hz hy with h1 | h1
        · exact h1
        · exact absurd ⟨by omega, by rw [hy, hz, h1]⟩ h
      by_cases e : i = n - 1
      · subst e; rw [hi] at hz; cases hz; exact h1
      · rcases hl i (n - 1) a z (by omega) hi hz with h2 | h2
        · exact htr _ _ _ h2 h1
        · subst h2; exact h1
end
section
variable {α : Type} [DecidableEq α]
structure CInv (l : List α) (K0 i k : Nat) (m : List α) : Prop where
  len : m.length = l.length
  take : m.take k = ddN l (K0 + i)
  kl : (ddN l (K0 + i)).length = k
  lt : k < K0 + i
  rest : ∀ j, k ≤ j → m[j]? = l[j]?
theorem CInv.start {l : List α} {K0 : Nat} (h0 : 0 < K0) (hl : K0 < l.length) (hno : ∀ i, i < K0 → i ≠ 0 → l[i]? ≠ l[i - 1]?) (he : l[K0]? = l[K0 - 1]?) : CInv l K0 1 K0 l := by
  have h1 : ddN l (K0 + 1) = l.take K0 := by rw [ddN_s, if_pos ⟨by omega, he⟩, zeU (by omega) hno]
  exact ⟨rfl, h1.symm, by rw [h1, List.length_take]; omega, by omega, fun _ _ => rfl⟩
theorem CInv.skip {l m : List α} {K0 i k : Nat} (h : CInv l K0 i k m) (h0 : 0 < K0 + i) (he : l[K0 + i]? = l[K0 + i - 1]?) : CInv l K0 (i + 1) k m := by
  have h1 : ddN l (K0 + (i + 1)) = ddN l (K0 + i) := by rw [← Nat.add_assoc, ddN_s, if_pos ⟨by omega, he⟩]
  exact ⟨h.len, h.take.trans h1.symm, by rw [h1]; exact h.kl, by have := h.lt; omega, h.rest⟩
theorem CInv.put {l m : List α} {K0 i k : Nat} (h : CInv l K0 i k m) {x : α} (hx : l[K0 + i]? = some x) (hne : l[K0 + i]? ≠ l[K0 + i - 1]?) : CInv l K0 (i + 1) (k + 1) (m.set k x) := by
  have h1 : ddN l (K0 + (i + 1)) = ddN l (K0 + i) ++ [x] := by rw [← Nat.add_assoc, ddN_s, if_neg (fun h => hne h.2), hx]; rfl
  have hlt := h.lt
  have hl := (List.getElem?_eq_some_iff.1 hx).1
  refine ⟨by rw [List.length_set]; exact h.len, ?_, by rw [h1, List.length_append, h.kl]; rfl, by omega, fun j hj => ?_⟩
  · rw [List.take_add_one, List.getElem?_set, if_pos rfl, if_pos (by rw [h.len]; omega), List.take_set_of_le (Nat.le_refl _), h.take, h1]; rfl
  · rw [List.getElem?_set, if_neg (by omega)]; exact h.rest j (by omega)
theorem rep_cell {z : List Value} (hz : z.all zbb = true) : ∀ n, (zl z n).all zbb = true
  | 0 => rfl
  | n + 1 => by show (z ++ zl z n).all zbb = true; rw [List.all_append, hz, rep_cell hz n]; rfl
theorem rep_len' {z : List Value} : ∀ n, (zl z n).length = n * z.length
  | 0 => by simp [zl]
  | n + 1 => by show (z ++ zl z n).length = _; rw [List.length_append, rep_len' n, Nat.succ_mul]; omega
theorem CInv.fin {enc : α → List Value} {sz : Nat} (E : Enc enc sz) {z : List Value} (hz1 : z.length = sz) (hz2 : z.all zbb = true) {l m : List α} {K0 i k n b : Nat} (hc : CInv l K0 i k m) (hn : l.length = n) (hi : K0 + i = n) {h : H} (hg : h.get b = some (.cells (m.map enc).flatten sz)) :
    ∃ h2 cs', zbk sz h (some (.int .i64 (k : Int))) none (.slice (some ⟨b, 0, none⟩) n zk) = some (.slice (some ⟨b, k * sz, none⟩) (n - k) zk, h) ∧ bltV h (.clear z) [.slice (some ⟨b, k * sz, none⟩) (n - k) zk] = some (zD, h2) ∧
      zbk sz h2 none (some (.int .i64 (k : Int))) (.slice (some ⟨b, 0, none⟩) n zk) = some (.slice (some ⟨b, 0, none⟩) k zk, h2) ∧ h2 = h.put b (.cells (((ddN l n).map enc).flatten ++ cs') sz) ∧ (ddN l n).length = k := by
  have hkn : k < n := by have := hc.lt; omega
  have hm : m.length = n := by rw [hc.len, hn]
  have htk := hc.take
  have hk := hc.kl
  rw [hi] at htk hk
  have hcl : (m.map enc).flatten.length = n * sz := by rw [zbo E.len, hm]
  have e1 := zf6 (h := h) (k := k) E.pos hg hcl (by omega)
  have hw := zh3 E (m := m) (k := k) (by omega) hz1
  rw [hm, htk] at hw
  have e2 := clear_eq (h' := h) (by omega) hg E.ro (rep_cell hz2 (n - k)) hw
  refine ⟨_, _, e1, e2, slice_to (cs := ((ddN l n).map enc).flatten ++ zl z (n - k)) E.pos (zw rfl) ?_ (by omega), rfl, hk⟩
  rw [List.length_append, zbo E.len, hk, rep_len', hz1, ← Nat.add_mul]
  congr 1; omega
end
end Go.Ideal
set_option maxHeartbeats 4000000
namespace Go.Ideal.J
open Go Go.Ideal
theorem encI : Enc intL 1 := ⟨by decide, by decide, fun _ => rfl, fun _ => rfl, fun _ => rfl⟩
theorem encE : Enc edL 3 := ⟨by decide, by decide, fun _ => rfl, fun _ => rfl, fun _ => rfl⟩
def zeroI : List Value := [.int .i64 0]
def zeroE : List Value := [.int .i64 0, .int .i64 0, .int .i64 0]
theorem vBin_edE (a b : Ed) (h : H) : vBin .eql (.leaves [0, 1, 2]) (edV a) (edV b) h = some (.bool (decide (a = b)), h) := by
  obtain ⟨a1, a2, a3⟩ := a
  obtain ⟨b1, b2, b3⟩ := b
  have e : eqV (.leaves [0, 1, 2]) (edV (a1, a2, a3)) (edV (b1, b2, b3)) = some (eqI a1 b1 && (eqI a2 b2 && (eqI a3 b3 && true))) := rfl
  show ((eqV (.leaves [0, 1, 2]) (edV (a1, a2, a3)) (edV (b1, b2, b3))).map fun b => Value.bool b).map _ = _
  rw [e]
  simp only [Option.map_some, zcs]
  congr 3
  rw [Bool.eq_iff_iff]; simp
section
theorem cpI4 {l : List Int} {n K0 b : Nat} (hn : l.length = n) (hn1 : n ≤ 1000000) (h0 : 0 < K0) (hK : K0 < n) {hh : H} {P : Value → H → Prop} {s2 : Value} (es2 : s2 = .slice (some ⟨b, K0 * 1, none⟩) (n - K0) zk)
    (hP : ∀ h' cs', FrD (fun j => j = b) hh h' → h'.get b = some (.cells (((ddN l n).map intL).flatten ++ cs') 1) → P (.slice (some ⟨b, 0, none⟩) (ddN l n).length zk) h') :
    ∀ (r j k : Nat) (h : H) (m : List Int), K0 + (j + 1) + r = n → CInv l K0 (j + 1) k m → b < h.next → h.get b = some (.cells (m.map intL).flatten 1) → FrD (fun j => j = b) hh h →
    OkV (sh (rI F) c_f_4 (K_f_4 (rI F)) (setL [p0, p3, p4, p5] [.slice (some ⟨b, 0, none⟩) n zk, .int .i64 (k : Int), s2, .int .i64 ((j : Int) + 1)]) h) P := by
  have hlen : ∀ h', bltV h' .len [s2] = some (.int .i64 ((n - K0 : Nat) : Int), h') := fun h' => by rw [es2]; rfl
  intro r
  induction r with
  | zero =>
    intro j k h m hi hc hb hg hf
    obtain ⟨h2, cs', e1, e2, e3, eh2, hk⟩ := hc.fin encI (z := zeroI) rfl (by decide) hn (by omega) hg
    have := hP h2 cs' (by rw [eh2]; exact hf.put (.inr rfl) _) (by rw [eh2]; exact zw rfl)
    rw [hk] at this
    have hj : ¬ ((j : Int) + 1 < ((n - K0 : Nat) : Int)) := by omega
    refine OkV.eq (OkV.val this) ?_
    unfold zeroI at e2
    rw [s_f_4]
    simp only [zH, hlen, zbf, hj, decide_false, zK]
    rw [s_f_3]
    simp only [zH, e1, e2, e3, zbq]
  | succ r ih =>
    intro j k h m hi hc hb hg hf
    have hj : (j : Int) + 1 < ((n - K0 : Nat) : Int) := by omega
    have hklt := hc.lt
    obtain ⟨x, hx⟩ : ∃ x, l[K0 + (j + 1)]? = some x := ⟨_, List.getElem?_eq_getElem (by omega)⟩
    obtain ⟨y, hy⟩ : ∃ y, l[K0 + j]? = some y := ⟨_, List.getElem?_eq_getElem (by omega)⟩
    have mx := (hc.rest (K0 + (j + 1)) (by omega)).trans hx
    have my := (hc.rest (K0 + j) (by omega)).trans hy
    have rx := zcq encI mx
    have ry := zcq encI my
    have ix : ∀ h', zt 1 s2 (.int .i64 ((j : Int) + 1)) h' = some (.pointer (some ⟨b, (K0 + (j + 1)) * 1, none⟩), h') := fun h' => by
      rw [es2]
      refine (zbv (i := j + 1) (by omega)).trans ?_
      rw [← Nat.add_mul]
    have iy : ∀ h', zt 1 s2 (.int .i64 ((j : Int))) h' = some (.pointer (some ⟨b, (K0 + j) * 1, none⟩), h') := fun h' => by
      rw [es2]
      refine (zbv (i := j) (by omega)).trans ?_
      rw [← Nat.add_mul]
    have sub1 : ∀ h', vBin .sub .other (.int .i64 ((j : Int) + 1)) (.int .i64 1) h' = some (.int .i64 (j : Int), h') := fun h' => by
      rw [zdJ (by omega) (by omega)]; congr 3; omega
    have add1 : ∀ h', vBin .add .other (.int .i64 ((j : Int) + 1)) (.int .i64 1) h' = some (.int .i64 (((j + 1 : Nat) : Int) + 1), h') := fun h' => by
      rw [zN (by omega) (by omega)]; congr 3
    have add2 : ∀ h', vBin .add .other (.int .i64 (k : Int)) (.int .i64 1) h' = some (.int .i64 ((k + 1 : Nat) : Int), h') := fun h' => by
      rw [zN (by omega) (by omega)]; rfl
    have ld : ∀ (o : Nat) (z : Int), zU 1 (zby o (m.map intL).flatten) = some (intL z) → zc (.pointer (some ⟨b, o, none⟩)) h = some (Value.int .i64 z, h) := fun o z hz => by
      simp [hg, hz, intL]
    have rd : ∀ (o : Nat) (z : Int), zU 1 (zby o (m.map intL).flatten) = some (intL z) → rdF (fun b_1 => zc (.pointer (some ⟨b, o, none⟩)) b_1) 0 h [(0, h)] = some (Value.int .i64 z, h) := fun o z hz => by
      show (zc (.pointer (some ⟨b, o, none⟩)) h).bind _ = _
      rw [ld o z hz]; rfl
    by_cases e : x = y
    · have := ih (j + 1) k h m (by omega) (hc.skip (by omega) (by rw [hx, show K0 + (j + 1) - 1 = K0 + j by omega, hy, e])) hb hg hf
      refine OkV.eq (this.lp (l_f_4 F _ _ _ _ _)) ?_
      have ne : vBin .neq .other (Value.int .i64 x) (Value.int .i64 y) h = some (.bool false, h) := by rw [vBin_neq]; simp [e]
      rw [s_f_4]
      simp only [zH, hlen, zbf, hj, decide_true, z6, ix, sub1, iy, rd _ _ rx, rd _ _ ry, ne, zK]
      rw [s_f_5]
      simp only [zH, add1]
    · have hw := zjr encI (m := m) (i := k) (by rw [hc.len]; omega) x
      have ik : ∀ h', zt 1 (.slice (some ⟨b, 0, none⟩) n zk) (.int .i64 (k : Int)) h' = some (.pointer (some ⟨b, k * 1, none⟩), h') := fun h' => by
        rw [zbv (by omega), Nat.zero_add]
      obtain ⟨h2, eh2⟩ : ∃ h2, h2 = h.put b (.cells ((m.set k x).map intL).flatten 1) := ⟨_, rfl⟩
      have st : zq 1 (.pointer (some ⟨b, k * 1, none⟩)) (Value.int .i64 x) h = some (zD, h2) := by
        have hw2 : h.write b (k * 1) (intL x) = some h2 := by rw [zht hg, if_pos (by rw [encI.cell]; rfl), hw, eh2]; rfl
        show (if Nat.beq (intL x).length 1 = true then (h.write b (k * 1) (intL x)).map (fun h => (zD, h)) else none) = _
        rw [if_pos (by rw [encI.len]; rfl), hw2]; rfl
      have := ih (j + 1) (k + 1) h2 (m.set k x) (by omega) (hc.put hx (by rw [hx, show K0 + (j + 1) - 1 = K0 + j by omega, hy]; exact fun h => e (Option.some.inj h))) (by rw [eh2]; exact hb) (by rw [eh2]; exact zw rfl) (by rw [eh2]; exact hf.put (.inr rfl) _)
      refine OkV.eq (this.lp (l_f_4 F _ _ _ _ _)) ?_
      have ne : vBin .neq .other (Value.int .i64 x) (Value.int .i64 y) h = some (.bool true, h) := by rw [vBin_neq]; simp [e]
      rw [s_f_4]
      simp only [zH, hlen, zbf, hj, decide_true, z6, ix, sub1, iy, rd _ _ rx, rd _ _ ry, ne, ld _ _ rx, ik, st, add2]
      rw [s_f_5]
      simp only [zH, add1]
theorem cpI1 {l : List Int} {n b : Nat} (hn : l.length = n) (hn1 : n ≤ 1000000) {h : H} (hb : b < h.next) (hg : h.get b = some (.cells (l.map intL).flatten 1)) {P : Value → H → Prop}
    (hP : ∀ h' cs', FrD (fun j => j = b) h h' → h'.get b = some (.cells (((ddN l n).map intL).flatten ++ cs') 1) → P (.slice (some ⟨b, 0, none⟩) (ddN l n).length zk) h') :
    ∀ (r j : Nat), j + 1 + r = n → (∀ i, i < j + 1 → i ≠ 0 → l[i]? ≠ l[i - 1]?) →
    OkV (sh (rI F) c_f_1 (K_f_1 (rI F)) (setL [p0, p3] [.slice (some ⟨b, 0, none⟩) n zk, .int .i64 ((j : Int) + 1)]) h) P := by
  have hlen : ∀ h', bltV h' .len [.slice (some ⟨b, 0, none⟩) n zk] = some (.int .i64 (n : Int), h') := fun h' => rfl
  intro r
  induction r with
  | zero =>
    intro j hi hno
    have hd : ddN l n = l := by rw [zeU (by omega) (fun i hi' h0 => hno i (by omega) h0), ← hn, List.take_length]
    have := hP h [] (.refl _ _) (by rw [hd, List.append_nil]; exact hg)
    rw [hd, hn] at this
    have hj : ¬ ((j : Int) + 1 < (n : Int)) := by omega
    refine OkV.eq (OkV.val this) ?_
    rw [s_f_1]
    simp only [zH, hlen, zbf, hj, decide_false, zK]
    rw [s_f_0]
    simp only [zH, zbq]
  | succ r ih =>
    intro j hi hno
    have hj : (j : Int) + 1 < (n : Int) := by omega
    obtain ⟨x, hx⟩ : ∃ x, l[j + 1]? = some x := ⟨_, List.getElem?_eq_getElem (by omega)⟩
    obtain ⟨y, hy⟩ : ∃ y, l[j]? = some y := ⟨_, List.getElem?_eq_getElem (by omega)⟩
    have rx := zcq encI hx
    have ry := zcq encI hy
    have ix : ∀ h', zt 1 (.slice (some ⟨b, 0, none⟩) n zk) (.int .i64 ((j : Int) + 1)) h' = some (.pointer (some ⟨b, (j + 1) * 1, none⟩), h') := fun h' => by
      refine (zbv (i := j + 1) (by omega)).trans ?_
      rw [Nat.zero_add]
    have iy : ∀ h', zt 1 (.slice (some ⟨b, 0, none⟩) n zk) (.int .i64 ((j : Int))) h' = some (.pointer (some ⟨b, j * 1, none⟩), h') := fun h' => by
      refine (zbv (i := j) (by omega)).trans ?_
      rw [Nat.zero_add]
    have sub1 : ∀ h', vBin .sub .other (.int .i64 ((j : Int) + 1)) (.int .i64 1) h' = some (.int .i64 (j : Int), h') := fun h' => by
      rw [zdJ (by omega) (by omega)]; congr 3; omega
    have add1 : ∀ h', vBin .add .other (.int .i64 ((j : Int) + 1)) (.int .i64 1) h' = some (.int .i64 (((j + 1 : Nat) : Int) + 1), h') := fun h' => by
      rw [zN (by omega) (by omega)]; congr 3
    have rd : ∀ (o : Nat) (z : Int), zU 1 (zby o (l.map intL).flatten) = some (intL z) → rdF (fun b_1 => zc (.pointer (some ⟨b, o, none⟩)) b_1) 0 h [(0, h)] = some (Value.int .i64 z, h) := fun o z hz => by
      have ld : zc (.pointer (some ⟨b, o, none⟩)) h = some (Value.int .i64 z, h) := by simp [hg, hz, intL]
      show (zc (.pointer (some ⟨b, o, none⟩)) h).bind _ = _
      rw [ld]; rfl
    by_cases e : x = y
    · obtain ⟨s2, es2⟩ : ∃ s2 : Value, s2 = .slice (some ⟨b, (j + 1) * 1, none⟩) (n - (j + 1)) zk := ⟨_, rfl⟩
      have hsl : zbk 1 h (some (.int .i64 ((j : Int) + 1))) none (.slice (some ⟨b, 0, none⟩) n zk) = some (s2, h) := by
        rw [es2]
        exact zf6 (k := j + 1) encI.pos hg (by rw [zbo encI.len, hn]) (by omega)
      have := cpI4 (K0 := j + 1) hn hn1 (by omega) (by omega) es2 (hh := h) hP (n - (j + 1) - 1) 0 (j + 1) h l (by omega) (CInv.start (by omega) (by omega) hno (by rw [hx, show j + 1 - 1 = j by omega, hy, e])) hb hg (.refl _ _)
      refine OkV.eq (this.lp (l_f_4 F _ _ _ _ _)) ?_
      have ne : vBin .eql .other (Value.int .i64 x) (Value.int .i64 y) h = some (.bool true, h) := by rw [vBin_eql]; simp [e]
      rw [s_f_1]
      simp only [zH, hlen, zbf, hj, decide_true, z6, ix, sub1, iy, rd _ _ rx, rd _ _ ry, ne, hsl]
      rfl
    · have := ih (j + 1) (by omega) (fun i hi' h0 => by
        by_cases e2 : i = j + 1
        · subst e2; rw [hx, show j + 1 - 1 = j by omega, hy]; exact fun h => e (Option.some.inj h)
        · exact hno i (by omega) h0)
      refine OkV.eq (this.lp (l_f_1 F _ _ _)) ?_
      have ne : vBin .eql .other (Value.int .i64 x) (Value.int .i64 y) h = some (.bool false, h) := by rw [vBin_eql]; simp [e]
      rw [s_f_1]
      simp only [zH, hlen, zbf, hj, decide_true, z6, ix, sub1, iy, rd _ _ rx, rd _ _ ry, ne, zK]
      rw [s_f_2]
      simp only [zH, add1]
theorem compactI_ok {l : List Int} (hn1 : l.length ≤ 1000000) {h : H} {v : Value} (hv : (v = .slice none 0 0 ∧ l = []) ∨ ∃ b, v = .slice (some ⟨b, 0, none⟩) l.length zk ∧ b < h.next ∧ h.get b = some (.cells (l.map intL).flatten 1)) :
    Ret F (fnV n_f) [v] h fun u h' => Row h' 1 u ((ddN l l.length).map intL) ∧ FrD (fun j => ∃ n c, v = .slice (some ⟨j, 0, none⟩) n c) h h' ∧ ∀ b o n c, u = .slice (some ⟨b, o, none⟩) n c → ∃ n' c', v = .slice (some ⟨b, 0, none⟩) n' c' := by
  obtain ⟨Pq, hPd⟩ : ∃ Pq : Value → H → Prop, Pq = fun u h' => Row h' 1 u ((ddN l l.length).map intL) ∧ FrD (fun j => ∃ n c, v = .slice (some ⟨j, 0, none⟩) n c) h h' ∧ ∀ b o n c, u = .slice (some ⟨b, o, none⟩) n c → ∃ n' c', v = .slice (some ⟨b, 0, none⟩) n' c' := ⟨_, rfl⟩
  rw [← hPd]
  refine Ret.fn F_f 1 (by decide) ?_
  rw [s_f]
  rcases hv with ⟨rfl, rfl⟩ | ⟨b, rfl, hb, hg⟩
  · refine OkV.eq (OkV.val (v := .slice none 0 0) (h := h) ?_) ?_
    · rw [hPd]; exact ⟨.nil, .refl _ _, fun _ _ _ _ e => by cases e⟩
    · simp
  · have hlen : ∀ h', bltV h' .len [.slice (some ⟨b, 0, none⟩) l.length zk] = some (.int .i64 (l.length : Int), h') := fun h' => rfl
    have hrow : ∀ {h' : H} {l' : List Int} {cs' : List Value}, b < h'.next → h'.get b = some (.cells ((l'.map intL).flatten ++ cs') 1) → Row h' 1 (.slice (some ⟨b, 0, none⟩) l'.length zk) (l'.map intL) := fun {h' l' cs'} hb' hg' => by
      have := Row.cells (off := 0) (cap := zk) (sz := 1) (rows := l'.map intL) hb' hg' (fun i r hr => by
        rw [List.getElem?_map] at hr
        obtain ⟨x, hx, rfl⟩ := Option.map_eq_some_iff.1 hr
        obtain ⟨q1, q2⟩ := zdp encI hx
        rw [q1, Nat.zero_add, ← q2, List.append_assoc, zem, List.append_assoc]
        exact zdi (encI.clean x) (encI.len x).symm) (.inl ⟨rfl, rfl, encI.pos, by rw [List.length_append, zbo encI.len, List.length_map]; omega⟩)
      rwa [List.length_map] at this
    have done : ∀ h' cs', FrD (fun j => j = b) h h' → h'.get b = some (.cells (((ddN l l.length).map intL).flatten ++ cs') 1) → Pq (.slice (some ⟨b, 0, none⟩) (ddN l l.length).length zk) h' := fun h' cs' hf hg' => by
      rw [hPd]
      exact ⟨hrow (Nat.lt_of_lt_of_le hb hf.next) hg', hf.mono fun i _ e => by subst e; exact ⟨_, _, rfl⟩, fun b' o n c e => by cases e; exact ⟨_, _, rfl⟩⟩
    by_cases h2 : l.length < 2
    · have hd : ddN l l.length = l := by
        rw [zeU (Nat.le_refl _) (fun i hi h0 => ?_), List.take_length]
        have : i = 1 ∨ i = 0 := by omega
        omega
      have := done h [] (.refl _ _) (by rw [hd, List.append_nil]; exact hg)
      rw [hd] at this
      refine OkV.eq (OkV.val this) ?_
      have h2' : (l.length : Int) < 2 := by omega
      simp only [zH, hlen, zbf, h2', decide_true, z6, zbq]
    · have := cpI1 (n := l.length) rfl hn1 hb hg done (l.length - 1) 0 (by omega) (fun i hi h0 => by omega)
      refine OkV.eq (this.lp (l_f_1 F _ _ _)) ?_
      have h2' : ¬ (l.length : Int) < 2 := by omega
      simp only [zH, hlen, zbf, h2', decide_false, zK]
      rfl
end
section
theorem cpE4 {l : List Ed} {n K0 b : Nat} (hn : l.length = n) (hn1 : n ≤ 1000000) (h0 : 0 < K0) (hK : K0 < n) {hh : H} {P : Value → H → Prop} {s2 : Value} (es2 : s2 = .slice (some ⟨b, K0 * 3, none⟩) (n - K0) zk)
    (hP : ∀ h' cs', FrD (fun j => j = b) hh h' → h'.get b = some (.cells (((ddN l n).map edL).flatten ++ cs') 3) → P (.slice (some ⟨b, 0, none⟩) (ddN l n).length zk) h') :
    ∀ (r j k : Nat) (h : H) (m : List Ed), K0 + (j + 1) + r = n → CInv l K0 (j + 1) k m → b < h.next → h.get b = some (.cells (m.map edL).flatten 3) → FrD (fun j => j = b) hh h →
    OkV (sh (rI F) c_b_4 (K_b_4 (rI F)) (setL [p0, p3, p4, p5] [.slice (some ⟨b, 0, none⟩) n zk, .int .i64 (k : Int), s2, .int .i64 ((j : Int) + 1)]) h) P := by
  have hlen : ∀ h', bltV h' .len [s2] = some (.int .i64 ((n - K0 : Nat) : Int), h') := fun h' => by rw [es2]; rfl
  intro r
  induction r with
  | zero =>
    intro j k h m hi hc hb hg hf
    obtain ⟨h2, cs', e1, e2, e3, eh2, hk⟩ := hc.fin encE (z := zeroE) rfl (by decide) hn (by omega) hg
    have := hP h2 cs' (by rw [eh2]; exact hf.put (.inr rfl) _) (by rw [eh2]; exact zw rfl)
    rw [hk] at this
    have hj : ¬ ((j : Int) + 1 < ((n - K0 : Nat) : Int)) := by omega
    refine OkV.eq (OkV.val this) ?_
    unfold zeroE at e2
    rw [s_b_4]
    simp only [zH, hlen, zbf, hj, decide_false, zK]
    rw [s_b_3]
    simp only [zH, e1, e2, e3, zbq]
  | succ r ih =>
    intro j k h m hi hc hb hg hf
    have hj : (j : Int) + 1 < ((n - K0 : Nat) : Int) := by omega
    have hklt := hc.lt
    obtain ⟨x, hx⟩ : ∃ x, l[K0 + (j + 1)]? = some x := ⟨_, List.getElem?_eq_getElem (by omega)⟩
    obtain ⟨y, hy⟩ : ∃ y, l[K0 + j]? = some y := ⟨_, List.getElem?_eq_getElem (by omega)⟩
    have mx := (hc.rest (K0 + (j + 1)) (by omega)).trans hx
    have my := (hc.rest (K0 + j) (by omega)).trans hy
    have rx := zcq encE mx
    have ry := zcq encE my
    have ix : ∀ h', zt 3 s2 (.int .i64 ((j : Int) + 1)) h' = some (.pointer (some ⟨b, (K0 + (j + 1)) * 3, none⟩), h') := fun h' => by
      rw [es2]
      refine (zbv (i := j + 1) (by omega)).trans ?_
      rw [← Nat.add_mul]
    have iy : ∀ h', zt 3 s2 (.int .i64 ((j : Int))) h' = some (.pointer (some ⟨b, (K0 + j) * 3, none⟩), h') := fun h' => by
      rw [es2]
      refine (zbv (i := j) (by omega)).trans ?_
      rw [← Nat.add_mul]
    have sub1 : ∀ h', vBin .sub .other (.int .i64 ((j : Int) + 1)) (.int .i64 1) h' = some (.int .i64 (j : Int), h') := fun h' => by
      rw [zdJ (by omega) (by omega)]; congr 3; omega
    have add1 : ∀ h', vBin .add .other (.int .i64 ((j : Int) + 1)) (.int .i64 1) h' = some (.int .i64 (((j + 1 : Nat) : Int) + 1), h') := fun h' => by
      rw [zN (by omega) (by omega)]; congr 3
    have add2 : ∀ h', vBin .add .other (.int .i64 (k : Int)) (.int .i64 1) h' = some (.int .i64 ((k + 1 : Nat) : Int), h') := fun h' => by
      rw [zN (by omega) (by omega)]; rfl
    have ld : ∀ (o : Nat) (z : Ed), zU 3 (zby o (m.map edL).flatten) = some (edL z) → zh 3 (.pointer (some ⟨b, o, none⟩)) h = some (edV z, h) := fun o z hz => by
      simp [hg, hz]
    have rd : ∀ (o : Nat) (z : Ed), zU 3 (zby o (m.map edL).flatten) = some (edL z) → rdF (fun b_1 => zh 3 (.pointer (some ⟨b, o, none⟩)) b_1) 0 h [(0, h)] = some (edV z, h) := fun o z hz => by
      show (zh 3 (.pointer (some ⟨b, o, none⟩)) h).bind _ = _
      rw [ld o z hz]; rfl
    by_cases e : x = y
    · have := ih (j + 1) k h m (by omega) (hc.skip (by omega) (by rw [hx, show K0 + (j + 1) - 1 = K0 + j by omega, hy, e])) hb hg hf
      refine OkV.eq (this.lp (l_b_4 F _ _ _ _ _)) ?_
      have ne : vBin .neq (.leaves [0, 1, 2]) (edV x) (edV y) h = some (.bool false, h) := by rw [vBin_ed]; simp [e]
      rw [s_b_4]
      simp only [zH, hlen, zbf, hj, decide_true, z6, ix, sub1, iy, rd _ _ rx, rd _ _ ry, ne, zK]
      rw [s_b_5]
      simp only [zH, add1]
    · have hw := zjr encE (m := m) (i := k) (by rw [hc.len]; omega) x
      have ik : ∀ h', zt 3 (.slice (some ⟨b, 0, none⟩) n zk) (.int .i64 (k : Int)) h' = some (.pointer (some ⟨b, k * 3, none⟩), h') := fun h' => by
        rw [zbv (by omega), Nat.zero_add]
      obtain ⟨h2, eh2⟩ : ∃ h2, h2 = h.put b (.cells ((m.set k x).map edL).flatten 3) := ⟨_, rfl⟩
      have st : zq 3 (.pointer (some ⟨b, k * 3, none⟩)) (edV x) h = some (zD, h2) := by
        have hw2 : h.write b (k * 3) (edL x) = some h2 := by rw [zht hg, if_pos (by rw [encE.cell]; rfl), hw, eh2]; rfl
        show (if Nat.beq (edL x).length 3 = true then (h.write b (k * 3) (edL x)).map (fun h => (zD, h)) else none) = _
        rw [if_pos (by rw [encE.len]; rfl), hw2]; rfl
      have := ih (j + 1) (k + 1) h2 (m.set k x) (by omega) (hc.put hx (by rw [hx, show K0 + (j + 1) - 1 = K0 + j by omega, hy]; exact fun h => e (Option.some.inj h))) (by rw [eh2]; exact hb) (by rw [eh2]; exact zw rfl) (by rw [eh2]; exact hf.put (.inr rfl) _)
      refine OkV.eq (this.lp (l_b_4 F _ _ _ _ _)) ?_
      have ne : vBin .neq (.leaves [0, 1, 2]) (edV x) (edV y) h = some (.bool true, h) := by rw [vBin_ed]; simp [e]
      rw [s_b_4]
      simp only [zH, hlen, zbf, hj, decide_true, z6, ix, sub1, iy, rd _ _ rx, rd _ _ ry, ne, ld _ _ rx, ik, st, add2]
      rw [s_b_5]
      simp only [zH, add1]
theorem cpE1 {l : List Ed} {n b : Nat} (hn : l.length = n) (hn1 : n ≤ 1000000) {h : H} (hb : b < h.next) (hg : h.get b = some (.cells (l.map edL).flatten 3)) {P : Value → H → Prop}
    (hP : ∀ h' cs', FrD (fun j => j = b) h h' → h'.get b = some (.cells (((ddN l n).map edL).flatten ++ cs') 3) → P (.slice (some ⟨b, 0, none⟩) (ddN l n).length zk) h') :
    ∀ (r j : Nat), j + 1 + r = n → (∀ i, i < j + 1 → i ≠ 0 → l[i]? ≠ l[i - 1]?) →
    OkV (sh (rI F) c_b_1 (K_b_1 (rI F)) (setL [p0, p3] [.slice (some ⟨b, 0, none⟩) n zk, .int .i64 ((j : Int) + 1)]) h) P := by
  have hlen : ∀ h', bltV h' .len [.slice (some ⟨b, 0, none⟩) n zk] = some (.int .i64 (n : Int), h') := fun h' => rfl
  intro r
  induction r with
  | zero =>
    intro j hi hno
    have hd : ddN l n = l := by rw [zeU (by omega) (fun i hi' h0 => hno i (by omega) h0), ← hn, List.take_length]
    have := hP h [] (.refl _ _) (by rw [hd, List.append_nil]; exact hg)
    rw [hd, hn] at this
    have hj : ¬ ((j : Int) + 1 < (n : Int)) := by omega
    refine OkV.eq (OkV.val this) ?_
    rw [s_b_1]
    simp only [zH, hlen, zbf, hj, decide_false, zK]
    rw [s_b_0]
    simp only [zH, zbq]
  | succ r ih =>
    intro j hi hno
    have hj : (j : Int) + 1 < (n : Int) := by omega
    obtain ⟨x, hx⟩ : ∃ x, l[j + 1]? = some x := ⟨_, List.getElem?_eq_getElem (by omega)⟩
    obtain ⟨y, hy⟩ : ∃ y, l[j]? = some y := ⟨_, List.getElem?_eq_getElem (by omega)⟩
    have rx := zcq encE hx
    have ry := zcq encE hy
    have ix : ∀ h', zt 3 (.slice (some ⟨b, 0, none⟩) n zk) (.int .i64 ((j : Int) + 1)) h' = some (.pointer (some ⟨b, (j + 1) * 3, none⟩), h') := fun h' => by
      refine (zbv (i := j + 1) (by omega)).trans ?_
      rw [Nat.zero_add]
    have iy : ∀ h', zt 3 (.slice (some ⟨b, 0, none⟩) n zk) (.int .i64 ((j : Int))) h' = some (.pointer (some ⟨b, j * 3, none⟩), h') := fun h' => by
      refine (zbv (i := j) (by omega)).trans ?_
      rw [Nat.zero_add]
    have sub1 : ∀ h', vBin .sub .other (.int .i64 ((j : Int) + 1)) (.int .i64 1) h' = some (.int .i64 (j : Int), h') := fun h' => by
      rw [zdJ (by omega) (by omega)]; congr 3; omega
    have add1 : ∀ h', vBin .add .other (.int .i64 ((j : Int) + 1)) (.int .i64 1) h' = some (.int .i64 (((j + 1 : Nat) : Int) + 1), h') := fun h' => by
      rw [zN (by omega) (by omega)]; congr 3
    have rd : ∀ (o : Nat) (z : Ed), zU 3 (zby o (l.map edL).flatten) = some (edL z) → rdF (fun b_1 => zh 3 (.pointer (some ⟨b, o, none⟩)) b_1) 0 h [(0, h)] = some (edV z, h) := fun o z hz => by
      have ld : zh 3 (.pointer (some ⟨b, o, none⟩)) h = some (edV z, h) := by simp [hg, hz]
      show (zh 3 (.pointer (some ⟨b, o, none⟩)) h).bind _ = _
      rw [ld]; rfl
    by_cases e : x = y
    · obtain ⟨s2, es2⟩ : ∃ s2 : Value, s2 = .slice (some ⟨b, (j + 1) * 3, none⟩) (n - (j + 1)) zk := ⟨_, rfl⟩
      have hsl : zbk 3 h (some (.int .i64 ((j : Int) + 1))) none (.slice (some ⟨b, 0, none⟩) n zk) = some (s2, h) := by
        rw [es2]
        exact zf6 (k := j + 1) encE.pos hg (by rw [zbo encE.len, hn]) (by omega)
      have := cpE4 (K0 := j + 1) hn hn1 (by omega) (by omega) es2 (hh := h) hP (n - (j + 1) - 1) 0 (j + 1) h l (by omega) (CInv.start (by omega) (by omega) hno (by rw [hx, show j + 1 - 1 = j by omega, hy, e])) hb hg (.refl _ _)
      refine OkV.eq (this.lp (l_b_4 F _ _ _ _ _)) ?_
      have ne : vBin .eql (.leaves [0, 1, 2]) (edV x) (edV y) h = some (.bool true, h) := by rw [vBin_edE]; simp [e]
      rw [s_b_1]
      simp only [zH, hlen, zbf, hj, decide_true, z6, ix, sub1, iy, rd _ _ rx, rd _ _ ry, ne, hsl]
      rfl
    · have := ih (j + 1) (by omega) (fun i hi' h0 => by
        by_cases e2 : i = j + 1
        · subst e2; rw [hx, show j + 1 - 1 = j by omega, hy]; exact fun h => e (Option.some.inj h)
        · exact hno i (by omega) h0)
      refine OkV.eq (this.lp (l_b_1 F _ _ _)) ?_
      have ne : vBin .eql (.leaves [0, 1, 2]) (edV x) (edV y) h = some (.bool false, h) := by rw [vBin_edE]; simp [e]
      rw [s_b_1]
      simp only [zH, hlen, zbf, hj, decide_true, z6, ix, sub1, iy, rd _ _ rx, rd _ _ ry, ne, zK]
      rw [s_b_2]
      simp only [zH, add1]
theorem compactE_ok {l : List Ed} (hn1 : l.length ≤ 1000000) {h : H} {v : Value} (hv : (v = .slice none 0 0 ∧ l = []) ∨ ∃ b, v = .slice (some ⟨b, 0, none⟩) l.length zk ∧ b < h.next ∧ h.get b = some (.cells (l.map edL).flatten 3)) :
    Ret F (fnV n_b) [v] h fun u h' => Row h' 3 u ((ddN l l.length).map edL) ∧ FrD (fun j => ∃ n c, v = .slice (some ⟨j, 0, none⟩) n c) h h' ∧ ∀ b o n c, u = .slice (some ⟨b, o, none⟩) n c → ∃ n' c', v = .slice (some ⟨b, 0, none⟩) n' c' := by
  obtain ⟨Pq, hPd⟩ : ∃ Pq : Value → H → Prop, Pq = fun u h' => Row h' 3 u ((ddN l l.length).map edL) ∧ FrD (fun j => ∃ n c, v = .slice (some ⟨j, 0, none⟩) n c) h h' ∧ ∀ b o n c, u = .slice (some ⟨b, o, none⟩) n c → ∃ n' c', v = .slice (some ⟨b, 0, none⟩) n' c' := ⟨_, rfl⟩
  rw [← hPd]
  refine Ret.fn F_b 1 (by decide) ?_
  rw [s_b]
  rcases hv with ⟨rfl, rfl⟩ | ⟨b, rfl, hb, hg⟩
  · refine OkV.eq (OkV.val (v := .slice none 0 0) (h := h) ?_) ?_
    · rw [hPd]; exact ⟨.nil, .refl _ _, fun _ _ _ _ e => by cases e⟩
    · simp
  · have hlen : ∀ h', bltV h' .len [.slice (some ⟨b, 0, none⟩) l.length zk] = some (.int .i64 (l.length : Int), h') := fun h' => rfl
    have hrow : ∀ {h' : H} {l' : List Ed} {cs' : List Value}, b < h'.next → h'.get b = some (.cells ((l'.map edL).flatten ++ cs') 3) → Row h' 3 (.slice (some ⟨b, 0, none⟩) l'.length zk) (l'.map edL) := fun {h' l' cs'} hb' hg' => by
      have := Row.cells (off := 0) (cap := zk) (sz := 3) (rows := l'.map edL) hb' hg' (fun i r hr => by
        rw [List.getElem?_map] at hr
        obtain ⟨x, hx, rfl⟩ := Option.map_eq_some_iff.1 hr
        obtain ⟨q1, q2⟩ := zdp encE hx
        rw [q1, Nat.zero_add, ← q2, List.append_assoc, zem, List.append_assoc]
        exact zdi (encE.clean x) (encE.len x).symm) (.inl ⟨rfl, rfl, encE.pos, by rw [List.length_append, zbo encE.len, List.length_map]; omega⟩)
      rwa [List.length_map] at this
    have done : ∀ h' cs', FrD (fun j => j = b) h h' → h'.get b = some (.cells (((ddN l l.length).map edL).flatten ++ cs') 3) → Pq (.slice (some ⟨b, 0, none⟩) (ddN l l.length).length zk) h' := fun h' cs' hf hg' => by
      rw [hPd]
      exact ⟨hrow (Nat.lt_of_lt_of_le hb hf.next) hg', hf.mono fun i _ e => by subst e; exact ⟨_, _, rfl⟩, fun b' o n c e => by cases e; exact ⟨_, _, rfl⟩⟩
    by_cases h2 : l.length < 2
    · have hd : ddN l l.length = l := by
        rw [zeU (Nat.le_refl _) (fun i hi h0 => ?_), List.take_length]
        have : i = 1 ∨ i = 0 := by omega
        omega
      have := done h [] (.refl _ _) (by rw [hd, List.append_nil]; exact hg)
      rw [hd] at this
      refine OkV.eq (OkV.val this) ?_
      have h2' : (l.length : Int) < 2 := by omega
      simp only [zH, hlen, zbf, h2', decide_true, z6, zbq]
    · have := cpE1 (n := l.length) rfl hn1 hb hg done (l.length - 1) 0 (by omega) (fun i hi h0 => by omega)
      refine OkV.eq (this.lp (l_b_1 F _ _ _)) ?_
      have h2' : ¬ (l.length : Int) < 2 := by omega
      simp only [zH, hlen, zbf, h2', decide_false, zK]
      rfl
end
end Go.Ideal.J
set_option maxHeartbeats 2000000
namespace Go.Ideal.J
open Go Go.Ideal
abbrev rV (r : Int → Int → Option Int) : Int → Int → Option Value := fun a b => (r a b).map fun k => Value.int .i64 k
def zbR (r : Int → Int → Option Int) (round u t : Int) : Bool := decide (u ≠ t) && match r u t with | some k => decide (k ≤ round) | none => false
def zgY (r : Int → Int → Option Int) (es : List Ed) (x : Ed) (other round : Int) : Bool := (tos es other x.2.2).all fun t => zbR r round x.2.1 t
theorem told_round (r : Int → Int → Option Int) (m : Nat) (x : Ed) (round t : Int) (L pm px pr pq : Nat) (h1 : H) (hm : MapM h1 m (rV r)) (hml : m < h1.next) (hL : h1.get L = some (.loop .ready none (setL [p5, p7, p9, p10] [ptr pm, ptr px, ptr pr, ptr pq]) zdj))
    (hpm : h1.get pm = some (.cells [.map (some m)] 0)) (hpx : h1.get px = some (.cells (edL x) 0)) (hpr : h1.get pr = some (.cells [.int .i64 round] 0)) (hpq : h1.get pq = some (.cells [.bool false] 0)) (l0 : L < h1.next) (l1 : pm < h1.next) (l2 : px < h1.next) (l3 : pr < h1.next) (l4 : pq < h1.next)
    (n1 : pm ≠ L) (n2 : px ≠ L) (n3 : pr ≠ L) (n4 : pq ≠ L) (n5 : m ≠ L) {P : Value → H → Prop}
    (hP1 : zbR r round x.2.1 t = true → ∀ h', FrD (fun j => j = L ∨ j = pq) h1 h' → h'.get L = some (.loop .ready none (setL [p5, p7, p9, p10] [ptr pm, ptr px, ptr pr, ptr pq]) zdj) → h'.get pq = some (.cells [.bool false] 0) → P (.bool true) h')
    (hP2 : zbR r round x.2.1 t = false → ∀ h', FrD (fun j => j = L ∨ j = pq) h1 h' → h'.get L = some (.loop .done (some .ret) (setL [p5, p7, p9, p10] [ptr pm, ptr px, ptr pr, ptr pq]) zdj) → h'.get pq = some (.cells [.bool false] 0) → P (.bool false) h') :
    Ret F (.func (.yield L) #[] #[]) [.int .i64 t] h1 P := by
  refine Ret.round hL ?_
  rw [s_k_1]
  simp (disch := first | omega | (simp only [za, zb]; done) | (simp only [za, zb]; omega)) []
  rw [zhr hL, s_k_2]
  obtain ⟨h2, eh2⟩ : ∃ h2, h2 = (h1.put L (.loop .busy none (setL [p5, p7, p9, p10] [ptr pm, ptr px, ptr pr, ptr pq]) zdj)).new (.cells [.int .i64 x.2.1, .int .i64 t] 0) := ⟨_, rfl⟩
  have hf2 : FrD (fun j => j = L) h1 h2 := by rw [eh2]; exact ((FrD.refl (fun j => j = L) _).put (.inr rfl) _).new _
  have hn2 : h2.next = h1.next + 1 := by rw [eh2]; simp
  have gL : h2.get L = some (.loop .busy none (setL [p5, p7, p9, p10] [ptr pm, ptr px, ptr pr, ptr pq]) zdj) := by rw [eh2, zbV (by simp; omega), zw rfl]
  have hm2 : MapM h2 m (rV r) := hm.fr hf2 hml n5
  have gm := (hf2.get _ l1 n1).trans hpm
  have gx := (hf2.get _ l2 n2).trans hpx
  have gr := (hf2.get _ l3 n3).trans hpr
  have gq := (hf2.get _ l4 n4).trans hpq
  have gp : h2.get h1.next = some (.cells [.int .i64 x.2.1, .int .i64 t] 0) := by rw [eh2, zgi (by simp)]
  have hlk := look_ok hm2 (.int .i64 0) x.2.1 t
  have hf3 : ∀ o, FrD (fun j => j = L ∨ j = pq) h1 (h2.put L o) := fun o => (hf2.mono fun _ _ h => .inl h).put (.inr (.inl rfl)) _
  have hf4 : ∀ o o', FrD (fun j => j = L ∨ j = pq) h1 ((h2.put pq o').put L o) := fun o o' => ((hf2.mono fun _ _ h => .inl h).put (.inr (.inr rfl)) _).put (.inr (.inl rfl)) _
  have gL4 : ∀ o', (h2.put pq o').get L = some (.loop .busy none (setL [p5, p7, p9, p10] [ptr pm, ptr px, ptr pr, ptr pq]) zdj) := fun o' => by rw [zo (Ne.symm n4)]; exact gL
  have okk : zbR r round x.2.1 t = true → OkV (fin L none h2) P := fun e => by
    rw [zeS gL]
    exact OkV.val (hP1 e _ (hf3 _) (zw rfl) (by rw [zo n4]; exact gq))
  have okn : zbR r round x.2.1 t = false → OkV (fin L (some .ret) (h2.put pq (.cells [.bool false] 0))) P := fun e => by
    rw [fin_some (gL4 _)]
    exact OkV.val (hP2 e _ (hf4 _ _) (zw rfl) (by rw [zo n4]; exact zw rfl))
  by_cases c1 : x.2.1 = t
  · refine OkV.eq (okn (by simp [zbR, c1])) ?_
    rw [c1] at hlk gp eh2
    simp (disch := first | omega | (simp only [za, zb]; done) | (simp only [za, zb]; omega)) [hpx, n2, c1, zp, ← eh2, gm, gp, hlk, zfw, gq]
  · cases hr : r x.2.1 t with
    | none =>
      simp only [rV, hr, Option.map_none, Option.map_some, Option.getD_none, Option.getD_some, Option.isSome_none, Option.isSome_some] at hlk
      refine OkV.eq (okn (by simp [zbR, hr])) ?_
      simp (disch := first | omega | (simp only [za, zb]; done) | (simp only [za, zb]; omega)) [hpx, n2, c1, zp, ← eh2, gm, gp, hlk, zfw, gq]
    | some k =>
      simp only [rV, hr, Option.map_none, Option.map_some, Option.getD_none, Option.getD_some, Option.isSome_none, Option.isSome_some] at hlk
      by_cases c2 : k ≤ round
      · refine OkV.eq (okk (by simp [zbR, hr, c1, c2])) ?_
        simp (disch := first | omega | (simp only [za, zb]; done) | (simp only [za, zb]; omega)) [hpx, n2, c1, zp, ← eh2, gm, gp, hlk, zfw, gq, gr, c2]
      · refine OkV.eq (okn (by simp [zbR, hr, c2])) ?_
        simp (disch := first | omega | (simp only [za, zb]; done) | (simp only [za, zb]; omega)) [hpx, n2, c1, zp, ← eh2, gm, gp, hlk, zfw, gq, gr, c2]
end Go.Ideal.J
namespace Go.Ideal.J
open Go Go.Ideal
theorem told_ok (es : List Ed) (hs : zbu es) (hsz : es.length ≤ 1000) (st lb : Int) (r : Int → Int → Option Int) (m : Nat) (x : Ed) (other round : Int) (sl : Value) (h : H) (hrow : Row h 3 sl (es.map edL)) (hm : MapM h m (rV r)) (hml : m < h.next) :
    ∃ h', zbs F (fnV n_k) [.map (some m), gV st lb sl, edV x, .int .i64 other, .int .i64 round] h = some (.bool (zgY r es x other round), h') ∧ Fr h h' := by
  suffices hr : Ret F (fnV n_k) [.map (some m), gV st lb sl, edV x, .int .i64 other, .int .i64 round] h fun v h' => v = .bool (zgY r es x other round) ∧ Fr h h' by
    obtain ⟨v, h', e, rfl, hf⟩ := hr; exact ⟨h', e, hf⟩
  obtain ⟨P, hPd⟩ : ∃ P : Value → H → Prop, P = fun v h' => v = .bool (zgY r es x other round) ∧ Fr h h' := ⟨_, rfl⟩
  rw [← hPd]
  refine Ret.fn F_k 5 (by decide) ?_
  rw [s_k]
  have hv := hrow.slvM
  obtain ⟨q, eq⟩ : ∃ q, q = h.next := ⟨_, rfl⟩
  obtain ⟨h2, eh2⟩ : ∃ h2, h2 = ((((((((h.new (.cells [.map (some m)] 0)).new (.cells (gL st lb sl) 0)).new (.cells (edL x) 0)).new (.cells [.int .i64 round] 0)).new (.cells [.bool false] 0)).new (.cells (gL st lb sl) 0)).new (.cells [.int .i64 other] 0)).new (.cells [.int .i64 x.2.2] 0)).new (.loop .ready none (setL [p5, p7, p9, p10] [ptr h.next, ptr (h.next + 1 + 1), ptr (h.next + 1 + 1 + 1), ptr (h.next + 1 + 1 + 1 + 1)]) zdj) := ⟨_, rfl⟩
  simp (disch := first | omega | (simp only [za, zb]; done) | (simp only [za, zb]; omega)) [hv.clean, hv.take, leads_ok]
  rw [← eh2, ← eq]
  have hf2 : Fr h h2 := by rw [eh2]; exact ((((((((Fr.new _ _).newR _).newR _).newR _).newR _).newR _).newR _).newR _).newR _
  have hn2 : h2.next = q + 9 := by rw [eh2, eq]; simp
  have gm2 : h2.get q = some (.cells [.map (some m)] 0) := by rw [eh2, eq]; simp (disch := first | omega | (simp only [za, zb]; done) | (simp only [za, zb]; omega)) []
  have gx2 : h2.get (q + 1 + 1) = some (.cells (edL x) 0) := by rw [eh2, eq]; simp (disch := first | omega | (simp only [za, zb]; done) | (simp only [za, zb]; omega)) []
  have gr2 : h2.get (q + 1 + 1 + 1) = some (.cells [.int .i64 round] 0) := by rw [eh2, eq]; simp (disch := first | omega | (simp only [za, zb]; done) | (simp only [za, zb]; omega)) []
  have gq2 : h2.get (q + 1 + 1 + 1 + 1) = some (.cells [.bool false] 0) := by rw [eh2, eq]; simp (disch := first | omega | (simp only [za, zb]; done) | (simp only [za, zb]; omega)) []
  have gg2 : h2.get (q + 1 + 1 + 1 + 1 + 1) = some (.cells (gL st lb sl) 0) := by rw [eh2, eq]; simp (disch := first | omega | (simp only [za, zb]; done) | (simp only [za, zb]; omega)) []
  have go2 : h2.get (q + 1 + 1 + 1 + 1 + 1 + 1) = some (.cells [.int .i64 other] 0) := by rw [eh2, eq]; simp (disch := first | omega | (simp only [za, zb]; done) | (simp only [za, zb]; omega)) []
  have gl2 : h2.get (q + 1 + 1 + 1 + 1 + 1 + 1 + 1) = some (.cells [.int .i64 x.2.2] 0) := by rw [eh2, eq]; simp (disch := first | omega | (simp only [za, zb]; done) | (simp only [za, zb]; omega)) []
  have gL2 : h2.get (q + 1 + 1 + 1 + 1 + 1 + 1 + 1 + 1) = some (.loop .ready none (setL [p5, p7, p9, p10] [ptr q, ptr (q + 1 + 1), ptr (q + 1 + 1 + 1), ptr (q + 1 + 1 + 1 + 1)]) zdj) := by rw [eh2, eq]; simp (disch := first | omega | (simp only [za, zb]; done) | (simp only [za, zb]; omega)) []
  obtain ⟨L, eL⟩ : ∃ L, L = q + 1 + 1 + 1 + 1 + 1 + 1 + 1 + 1 := ⟨_, rfl⟩
  rw [← eL] at gL2 ⊢
  have hm2 := hm.fr (D := fun _ => False) hf2.D hml (by simp)
  refine OkV.call (leads_run es hs hsz other x.2.2 st lb (.func (.yield L) #[] #[]) rfl rfl rfl sl (q + 1 + 1 + 1 + 1 + 1) (q + 1 + 1 + 1 + 1 + 1 + 1) (q + 1 + 1 + 1 + 1 + 1 + 1 + 1) h2 (M := fun j => j = L ∨ j = q + 1 + 1 + 1 + 1) (fun i hi => by omega) (hrow.fr hf2) (by omega) (by omega) (by omega) (fun b o n c e => by have := hrow.lt e; omega) (by omega) gg2 (by omega) go2 (by omega) gl2
    (fun i h1 => h1.get L = some (.loop .ready none (setL [p5, p7, p9, p10] [ptr q, ptr (q + 1 + 1), ptr (q + 1 + 1 + 1), ptr (q + 1 + 1 + 1 + 1)]) zdj) ∧ h1.get (q + 1 + 1 + 1 + 1) = some (.cells [.bool false] 0) ∧ FrD (fun j => j = L ∨ j = q + 1 + 1 + 1 + 1) h2 h1 ∧ ∀ t ∈ (tos es other x.2.2).take i, zbR r round x.2.1 t = true)
    (fun h1 => h1.get L = some (.loop .done (some .ret) (setL [p5, p7, p9, p10] [ptr q, ptr (q + 1 + 1), ptr (q + 1 + 1 + 1), ptr (q + 1 + 1 + 1 + 1)]) zdj) ∧ h1.get (q + 1 + 1 + 1 + 1) = some (.cells [.bool false] 0) ∧ h2.next ≤ h1.next ∧ ∃ t ∈ tos es other x.2.2, zbR r round x.2.1 t = false) ?_ ?_ ?_ ?_
    (P := fun _ h' => FrD (fun j => j = L ∨ j = q + 1 + 1 + 1 + 1) h2 h' ∧ ((h'.get L = some (.loop .ready none (setL [p5, p7, p9, p10] [ptr q, ptr (q + 1 + 1), ptr (q + 1 + 1 + 1), ptr (q + 1 + 1 + 1 + 1)]) zdj) ∧ h'.get (q + 1 + 1 + 1 + 1) = some (.cells [.bool false] 0) ∧ zgY r es x other round = true) ∨ (h'.get L = some (.loop .done (some .ret) (setL [p5, p7, p9, p10] [ptr q, ptr (q + 1 + 1), ptr (q + 1 + 1 + 1), ptr (q + 1 + 1 + 1 + 1)]) zdj) ∧ h'.get (q + 1 + 1 + 1 + 1) = some (.cells [.bool false] 0) ∧ zgY r es x other round = false))) ?_) ?_
  · rintro i h1 h3 ⟨q1, q2, q3, q4⟩ hf
    have := q3.next
    refine ⟨(hf.get _ (by omega) (by omega)).trans q1, (hf.get _ (by omega) (by omega)).trans q2, ⟨Nat.le_trans q3.next hf.next, fun j hj hd => (hf.get _ (by omega) (by omega)).trans (q3.get _ hj hd)⟩, q4⟩
  · rintro h1 h3 ⟨q1, q2, q3, q4⟩ hf
    exact ⟨(hf.get _ (by omega) (by omega)).trans q1, (hf.get _ (by omega) (by omega)).trans q2, Nat.le_trans q3 hf.next, q4⟩
  · rintro i v h1 hv ⟨q1, q2, q3, q4⟩ hn
    rw [List.getElem?_map] at hv
    obtain ⟨t, ht, rfl⟩ := Option.map_eq_some_iff.1 hv
    refine told_round r m x round t L q (q + 1 + 1) (q + 1 + 1 + 1) (q + 1 + 1 + 1 + 1) h1 (hm2.fr q3 (by have := hf2.next; omega) (by omega)) (by omega) q1 ((q3.get _ (by omega) (by omega)).trans gm2) ((q3.get _ (by omega) (by omega)).trans gx2) ((q3.get _ (by omega) (by omega)).trans gr2) q2 (by omega) (by omega) (by omega) (by omega) (by omega) (by omega) (by omega) (by omega) (by omega) (by omega) ?_ ?_
    · intro e h' r1 r2 r3
      refine ⟨r1, .inl ⟨rfl, r2, r3, q3.trans r1, fun u hu => ?_⟩⟩
      rw [List.take_add_one, ht] at hu
      rcases List.mem_append.1 hu with hu | hu
      · exact q4 u hu
      · simp at hu; subst hu; exact e
    · intro e h' r1 r2 r3
      exact ⟨r1, .inr ⟨rfl, r2, r3, by have := r1.next; omega, t, List.mem_of_getElem? ht, e⟩⟩
  · exact ⟨gL2, gq2, .refl _ _, by simp⟩
  · intro h' hf hv
    refine ⟨hf, ?_⟩
    rcases hv with ⟨q1, q2, q3, q4⟩ | ⟨q1, q2, q3, t, ht, e⟩
    · refine .inl ⟨q1, q2, ?_⟩
      rw [List.take_length] at q4
      exact List.all_eq_true.2 q4
    · refine .inr ⟨q1, q2, ?_⟩
      rw [Bool.eq_false_iff]
      intro hh
      rw [List.all_eq_true.1 hh t ht] at e; cases e
  · rintro v h' ⟨hf, hv⟩
    have hfn := hf.next
    have hfin : ∀ o o', Fr h ((h'.put L o).put (q + 1 + 1 + 1 + 1) o') := fun o o' => ⟨by simp; have := hf2.next; omega, fun i hi => by
      rw [zo (by omega), zo (by omega), hf.get _ (by have := hf2.next; omega) (by omega)]; exact hf2.get _ hi⟩
    have hfin' : ∀ o, Fr h (h'.put L o) := fun o => ⟨by simp; have := hf2.next; omega, fun i hi => by
      rw [zo (by omega), hf.get _ (by have := hf2.next; omega) (by omega)]; exact hf2.get _ hi⟩
    rcases hv with ⟨q1, q2, q3⟩ | ⟨q1, q2, q3⟩
    · rw [zfH q1, s_k_0]
      refine OkV.eq (OkV.val (v := .bool true) (h := (h'.put L (.loop .exhausted none (setL [p5, p7, p9, p10] [ptr q, ptr (q + 1 + 1), ptr (q + 1 + 1 + 1), ptr (q + 1 + 1 + 1 + 1)]) zdj)).put (q + 1 + 1 + 1 + 1) (.cells [.bool true] 0)) (by rw [hPd]; exact ⟨by rw [q3], hfin _ _⟩)) ?_
      simp (disch := first | omega | (simp only [za, zb]; done) | (simp only [za, zb]; omega)) [q2]
    · rw [rgP_ret q1]
      refine OkV.eq (OkV.val (v := .bool false) (h := h'.put L (.loop .exhausted (some .ret) (setL [p5, p7, p9, p10] [ptr q, ptr (q + 1 + 1), ptr (q + 1 + 1 + 1), ptr (q + 1 + 1 + 1 + 1)]) zdj)) (by rw [hPd]; exact ⟨by rw [q3], hfin' _⟩)) ?_
      simp (disch := first | omega | (simp only [za, zb]; done) | (simp only [za, zb]; omega)) [q2]
end Go.Ideal.J
namespace Go.Ideal.J
open Go Go.Ideal
def zbp (r : Int → Int → Option Int) (es : List Ed) (a b round : Int) : Option Ed := (outs es a).find? fun x => zgY r es x b round
theorem find_at {α : Type} {p : α → Bool} : ∀ {l : List α} {i : Nat} {x : α}, l[i]? = some x → (∀ y ∈ l.take i, p y = false) → p x = true → l.find? p = some x
  | [], i, x, h, _, _ => by simp at h
  | a :: l, 0, x, h, _, hx => by
    simp at h; subst h
    rw [List.find?_cons, hx]
  | a :: l, i + 1, x, h, hn, hx => by
    have ha := hn a (by simp)
    rw [List.find?_cons, ha]
    exact find_at (by simpa using h) (fun y hy => hn y (by simp [hy])) hx
theorem find_none {α : Type} {p : α → Bool} {l : List α} (h : ∀ y ∈ l, p y = false) : l.find? p = none := by
  rw [List.find?_eq_none]; intro x hx; rw [h x hx]; simp
def zcr : Option Ed → Value
  | some x => pairV' (edV x) (.bool true)
  | none => pairV' (edV (0, 0, 0)) (.bool false)
where pairV' (a b : Value) : Value := .tuple ⟨[a, b]⟩
noncomputable abbrev slF1 (q : Nat) : zf := setL [p5, p6, p8, p9, p10, p11] [ptr q, ptr (q + 1), ptr (q + 1 + 1), ptr (q + 1 + 1 + 1), ptr (q + 1 + 1 + 1 + 1), ptr (q + 1 + 1 + 1 + 1 + 1)]
theorem first_round (es : List Ed) (hs : zbu es) (hsz : es.length ≤ 1000) (st lb : Int) (r : Int → Int → Option Int) (m : Nat) (x : Ed) (other round : Int) (sl : Value) (L q : Nat) (h1 : H) (hrow : Row h1 3 sl (es.map edL)) (hsl : ∀ b o n c, sl = .slice (some ⟨b, o, none⟩) n c → b ≠ L) (hm : MapM h1 m (rV r)) (hml : m < q) (hL : h1.get L = some (.loop .ready none (slF1 q) zdF)) (hLq : q + 6 ≤ L)
    (g0 : h1.get q = some (.cells [.map (some m)] 0)) (g1 : h1.get (q + 1) = some (.cells (gL st lb sl) 0)) (g2 : h1.get (q + 1 + 1) = some (.cells [.int .i64 other] 0)) (g3 : h1.get (q + 1 + 1 + 1) = some (.cells [.int .i64 round] 0)) (g4 : h1.get (q + 1 + 1 + 1 + 1) = some (.cells (edL (0, 0, 0)) 0)) (g5 : h1.get (q + 1 + 1 + 1 + 1 + 1) = some (.cells [.bool false] 0)) (hl : L < h1.next) {P : Value → H → Prop}
    (hP1 : zgY r es x other round = false → ∀ h', FrD (fun j => j = L ∨ j = q + 4 ∨ j = q + 5) h1 h' → h'.get L = some (.loop .ready none (slF1 q) zdF) → h'.get (q + 4) = some (.cells (edL (0, 0, 0)) 0) → h'.get (q + 5) = some (.cells [.bool false] 0) → P (.bool true) h')
    (hP2 : zgY r es x other round = true → ∀ h', FrD (fun j => j = L ∨ j = q + 4 ∨ j = q + 5) h1 h' → h'.get L = some (.loop .done (some .ret) (slF1 q) zdF) → h'.get (q + 4) = some (.cells (edL x) 0) → h'.get (q + 5) = some (.cells [.bool true] 0) → P (.bool false) h') :
    Ret F (.func (.yield L) #[] #[]) [edV x] h1 P := by
  refine Ret.round hL ?_
  rw [s_i_1]
  simp (disch := first | omega | (simp only [za, zb]; done) | (simp only [za, zb]; omega)) []
  obtain ⟨h2, eh2⟩ : ∃ h2, h2 = (h1.new (.cells (edL x) 0)).put L (.loop .busy none (slF1 q) zdF) := ⟨_, rfl⟩
  rw [zhr (by rw [zbV (by omega)]; exact hL), s_i_2]
  have hf2 : FrD (fun j => j = L) h1 h2 := by rw [eh2]; exact ((FrD.refl (fun j => j = L) _).new _).put (.inr rfl) _
  have hn2 : h2.next = h1.next + 1 := by rw [eh2]; simp
  have gL2 : h2.get L = some (.loop .busy none (slF1 q) zdF) := by rw [eh2, zw rfl]
  have gx2 : h2.get h1.next = some (.cells (edL x) 0) := by rw [eh2, zo (by omega), zgi rfl]
  have k0 := (hf2.get _ (by omega) (by omega)).trans g0
  have k1 := (hf2.get _ (by omega) (by omega)).trans g1
  have k2' := (hf2.get _ (by omega) (by omega)).trans g2
  have k3 := (hf2.get _ (by omega) (by omega)).trans g3
  have k4 := (hf2.get _ (by omega) (by omega)).trans g4
  have k5 := (hf2.get _ (by omega) (by omega)).trans g5
  have hv := hrow.slvM
  obtain ⟨h3, e3, hf3⟩ := told_ok es hs hsz st lb r m x other round sl h2 (hrow.frD hf2 hsl) (hm.fr hf2 (by omega) (by omega)) (by omega)
  have hfn3 := hf3.next
  have gL3 := (hf3.get _ (by omega)).trans gL2
  have gx3 := (hf3.get _ (by omega)).trans gx2
  have j4 := (hf3.get _ (by omega)).trans k4
  have j5 := (hf3.get _ (by omega)).trans k5
  have hf13 : FrD (fun j => j = L ∨ j = q + 4 ∨ j = q + 5) h1 h3 := ⟨by omega, fun i hi hd => (hf3.get _ (by omega)).trans (hf2.get _ hi (by omega))⟩
  rw [← eh2]
  cases ht : zgY r es x other round with
  | false =>
    rw [ht] at e3
    have : OkV (fin L none h3) P := by
      rw [zeS gL3]
      exact OkV.val (hP1 ht _ (hf13.put (.inr (.inl rfl)) _) (zw rfl) (by rw [zo (by omega)]; exact j4) (by rw [zo (by omega)]; exact j5))
    refine OkV.eq this ?_
    simp (disch := first | omega | (simp only [za, zb]; done) | (simp only [za, zb]; omega)) [k0, k1, k2', k3, gx2, hv.clean, hv.take, e3]
  | true =>
    rw [ht] at e3
    have : OkV (fin L (some .ret) ((h3.put (q + 1 + 1 + 1 + 1) (.cells (edL x) 0)).put (q + 1 + 1 + 1 + 1 + 1) (.cells [.bool true] 0))) P := by
      rw [fin_some (by rw [zo (by omega), zo (by omega)]; exact gL3)]
      exact OkV.val (hP2 ht _ (((hf13.put (.inr (.inr (.inl rfl))) _).put (.inr (.inr (.inr rfl))) _).put (.inr (.inl rfl)) _) (zw rfl) (by rw [zo (by omega), zo (by omega), zw rfl]) (by rw [zo (by omega), zw rfl]))
    refine OkV.eq this ?_
    simp (disch := first | omega | (simp only [za, zb]; done) | (simp only [za, zb]; omega)) [k0, k1, k2', k3, gx2, hv.clean, hv.take, e3, gx3, j4, j5]
theorem first_ok (es : List Ed) (hs : zbu es) (hsz : es.length ≤ 1000) (st lb : Int) (r : Int → Int → Option Int) (m : Nat) (a b round : Int) (sl : Value) (h : H) (hrow : Row h 3 sl (es.map edL)) (hm : MapM h m (rV r)) (hml : m < h.next) :
    ∃ h', zbs F (fnV n_i) [.map (some m), gV st lb sl, .int .i64 a, .int .i64 b, .int .i64 round] h = some (zcr (zbp r es a b round), h') ∧ Fr h h' := by
  suffices hr : Ret F (fnV n_i) [.map (some m), gV st lb sl, .int .i64 a, .int .i64 b, .int .i64 round] h fun v h' => v = zcr (zbp r es a b round) ∧ Fr h h' by
    obtain ⟨v, h', e, rfl, hf⟩ := hr; exact ⟨h', e, hf⟩
  obtain ⟨P, hPd⟩ : ∃ P : Value → H → Prop, P = fun v h' => v = zcr (zbp r es a b round) ∧ Fr h h' := ⟨_, rfl⟩
  rw [← hPd]
  refine Ret.fn F_i 5 (by decide) ?_
  rw [s_i]
  have hv := hrow.slvM
  obtain ⟨q, eq⟩ : ∃ q, q = h.next := ⟨_, rfl⟩
  obtain ⟨h2, eh2⟩ : ∃ h2, h2 = ((((((((h.new (.cells [.map (some m)] 0)).new (.cells (gL st lb sl) 0)).new (.cells [.int .i64 b] 0)).new (.cells [.int .i64 round] 0)).new (.cells (edL (0, 0, 0)) 0)).new (.cells [.bool false] 0)).new (.cells (gL st lb sl) 0)).new (.cells [.int .i64 a] 0)).new (.loop .ready none (slF1 h.next) zdF) := ⟨_, rfl⟩
  simp (disch := first | omega | (simp only [za, zb]; done) | (simp only [za, zb]; omega)) [hv.clean, hv.take, steps_ok]
  rw [← eh2, ← eq]
  have hf2 : Fr h h2 := by rw [eh2]; exact ((((((((Fr.new _ _).newR _).newR _).newR _).newR _).newR _).newR _).newR _).newR _
  have hn2 : h2.next = q + 9 := by rw [eh2, eq]; simp
  have k0 : h2.get q = some (.cells [.map (some m)] 0) := by rw [eh2, eq]; simp (disch := first | omega | (simp only [za, zb]; done) | (simp only [za, zb]; omega)) []
  have k1 : h2.get (q + 1) = some (.cells (gL st lb sl) 0) := by rw [eh2, eq]; simp (disch := first | omega | (simp only [za, zb]; done) | (simp only [za, zb]; omega)) []
  have k2' : h2.get (q + 1 + 1) = some (.cells [.int .i64 b] 0) := by rw [eh2, eq]; simp (disch := first | omega | (simp only [za, zb]; done) | (simp only [za, zb]; omega)) []
  have k3 : h2.get (q + 1 + 1 + 1) = some (.cells [.int .i64 round] 0) := by rw [eh2, eq]; simp (disch := first | omega | (simp only [za, zb]; done) | (simp only [za, zb]; omega)) []
  have k4 : h2.get (q + 1 + 1 + 1 + 1) = some (.cells (edL (0, 0, 0)) 0) := by rw [eh2, eq]; simp (disch := first | omega | (simp only [za, zb]; done) | (simp only [za, zb]; omega)) []
  have k5 : h2.get (q + 1 + 1 + 1 + 1 + 1) = some (.cells [.bool false] 0) := by rw [eh2, eq]; simp (disch := first | omega | (simp only [za, zb]; done) | (simp only [za, zb]; omega)) []
  have gg2 : h2.get (q + 1 + 1 + 1 + 1 + 1 + 1) = some (.cells (gL st lb sl) 0) := by rw [eh2, eq]; simp (disch := first | omega | (simp only [za, zb]; done) | (simp only [za, zb]; omega)) []
  have gf2 : h2.get (q + 1 + 1 + 1 + 1 + 1 + 1 + 1) = some (.cells [.int .i64 a] 0) := by rw [eh2, eq]; simp (disch := first | omega | (simp only [za, zb]; done) | (simp only [za, zb]; omega)) []
  have gL2 : h2.get (q + 1 + 1 + 1 + 1 + 1 + 1 + 1 + 1) = some (.loop .ready none (slF1 q) zdF) := by rw [eh2, eq]; simp (disch := first | omega | (simp only [za, zb]; done) | (simp only [za, zb]; omega)) []
  obtain ⟨L, eL⟩ : ∃ L, L = q + 1 + 1 + 1 + 1 + 1 + 1 + 1 + 1 := ⟨_, rfl⟩
  rw [← eL] at gL2 ⊢
  have hm2 := hm.fr (D := fun _ => False) hf2.D hml (by simp)
  refine OkV.call (zhB es hs hsz a st lb (.func (.yield L) #[] #[]) sl (q + 1 + 1 + 1 + 1 + 1 + 1) (q + 1 + 1 + 1 + 1 + 1 + 1 + 1) h2 (M := fun j => j = L ∨ j = q + 4 ∨ j = q + 5) (hrow.fr hf2) (by omega) (by omega) (fun b o n c e => by have := hrow.lt e; omega) (by omega) gg2 (by omega) gf2
    (fun i h1 => h1.get L = some (.loop .ready none (slF1 q) zdF) ∧ h1.get (q + 4) = some (.cells (edL (0, 0, 0)) 0) ∧ h1.get (q + 5) = some (.cells [.bool false] 0) ∧ FrD (fun j => j = L ∨ j = q + 4 ∨ j = q + 5) h2 h1 ∧ ∀ x ∈ (outs es a).take i, zgY r es x b round = false)
    (fun h1 => ∃ x, h1.get L = some (.loop .done (some .ret) (slF1 q) zdF) ∧ h1.get (q + 4) = some (.cells (edL x) 0) ∧ h1.get (q + 5) = some (.cells [.bool true] 0) ∧ zbp r es a b round = some x) h2.next (Nat.le_refl _) ?_ ?_ ?_
    (P := fun _ h' => FrD (fun j => j = L ∨ j = q + 4 ∨ j = q + 5) h2 h' ∧ ((h'.get L = some (.loop .ready none (slF1 q) zdF) ∧ h'.get (q + 4) = some (.cells (edL (0, 0, 0)) 0) ∧ h'.get (q + 5) = some (.cells [.bool false] 0) ∧ zbp r es a b round = none) ∨ ∃ x, h'.get L = some (.loop .done (some .ret) (slF1 q) zdF) ∧ h'.get (q + 4) = some (.cells (edL x) 0) ∧ h'.get (q + 5) = some (.cells [.bool true] 0) ∧ zbp r es a b round = some x)) ?_) ?_
  · rintro i h1 h3 ⟨q1, q2, q3, q4, q5⟩ hf
    have := q4.next
    exact ⟨(hf.get _ (by omega)).trans q1, (hf.get _ (by omega)).trans q2, (hf.get _ (by omega)).trans q3, q4.trans hf.D, q5⟩
  · rintro i v h1 hv ⟨q1, q2, q3, q4, q5⟩ hn
    rw [List.getElem?_map] at hv
    obtain ⟨x, hx, rfl⟩ := Option.map_eq_some_iff.1 hv
    refine first_round es hs hsz st lb r m x b round sl L q h1 ((hrow.fr hf2).frD q4 (fun b o n c e => by have := hrow.lt e; omega)) (fun b o n c e => by have := hrow.lt e; omega) (hm2.fr q4 (by omega) (by omega)) (by omega) q1 (by omega) ((q4.get _ (by omega) (by omega)).trans k0) ((q4.get _ (by omega) (by omega)).trans k1) ((q4.get _ (by omega) (by omega)).trans k2') ((q4.get _ (by omega) (by omega)).trans k3) q2 q3 (by omega) ?_ ?_
    · intro e h' r1 r2 r3 r4
      refine ⟨r1, .inl ⟨rfl, r2, r3, r4, q4.trans r1, fun y hy => ?_⟩⟩
      rw [List.take_add_one, hx] at hy
      rcases List.mem_append.1 hy with hy | hy
      · exact q5 y hy
      · simp at hy; subst hy; exact e
    · intro e h' r1 r2 r3 r4
      exact ⟨r1, .inr ⟨rfl, x, r2, r3, r4, find_at hx q5 e⟩⟩
  · exact ⟨gL2, k4, k5, .refl _ _, by simp⟩
  · intro h' hf hv
    refine ⟨hf, ?_⟩
    rcases hv with ⟨q1, q2, q3, q4, q5⟩ | ⟨x, q1, q2, q3, q4⟩
    · rw [List.take_length] at q5
      exact .inl ⟨q1, q2, q3, find_none q5⟩
    · exact .inr ⟨x, q1, q2, q3, q4⟩
  · rintro v h' ⟨hf, hv⟩
    have hfn := hf.next
    have hfin : ∀ o, Fr h (h'.put L o) := fun o => ⟨by simp; have := hf2.next; omega, fun i hi => by
      rw [zo (by omega), hf.get _ (by have := hf2.next; omega) (by omega)]; exact hf2.get _ hi⟩
    have hfin' : ∀ o o1 o2, Fr h (((h'.put L o).put (q + 1 + 1 + 1 + 1) o1).put (q + 1 + 1 + 1 + 1 + 1) o2) := fun o o1 o2 => ((hfin o).put (by omega) _).put (by omega) _
    rcases hv with ⟨q1, q2, q3, q4⟩ | ⟨x, q1, q2, q3, q4⟩
    · rw [zfH q1, s_i_0]
      refine OkV.eq (OkV.val (v := zcr none) (h := ((h'.put L (.loop .exhausted none (slF1 q) zdF)).put (q + 1 + 1 + 1 + 1) (.cells (edL (0, 0, 0)) 0)).put (q + 1 + 1 + 1 + 1 + 1) (.cells [.bool false] 0)) (by rw [hPd]; exact ⟨by rw [q4], hfin' _ _ _⟩)) ?_
      have q2' : h'.get (q + 1 + 1 + 1 + 1) = some (.cells (edL (0, 0, 0)) 0) := q2
      have q3' : h'.get (q + 1 + 1 + 1 + 1 + 1) = some (.cells [.bool false] 0) := q3
      simp (disch := first | omega | (simp only [za, zb]; done) | (simp only [za, zb]; omega)) [q2', q3', zp, zcr, zcr.pairV']
    · rw [rgP_ret q1]
      refine OkV.eq (OkV.val (v := zcr (some x)) (h := h'.put L (.loop .exhausted (some .ret) (slF1 q) zdF)) (by rw [hPd]; exact ⟨by rw [q4], hfin _⟩)) ?_
      have q2' : h'.get (q + 1 + 1 + 1 + 1) = some (.cells (edL x) 0) := q2
      have q3' : h'.get (q + 1 + 1 + 1 + 1 + 1) = some (.cells [.bool true] 0) := q3
      simp (disch := first | omega | (simp only [za, zb]; done) | (simp only [za, zb]; omega)) [q2', q3', zp, zcr, zcr.pairV']
end Go.Ideal.J
namespace Go.Ideal.J
open Go Go.Ideal
def zdZ (r : Int → Int → Option Int) (es : List Ed) (n : Int) (a b : Int) : Bool := (r a b).isNone && ((zbp r es a b (n - 1)).isSome || (zbp r es b a (n - 1)).isSome)
def fndA (r : Int → Int → Option Int) (es : List Ed) (n : Int) (a b : Nat) : List (Int × Int) := ((List.range b).filter fun (b : Nat) => zdZ r es n (a : Int) (b : Int)).map fun (b : Nat) => ((a : Int), (b : Int))
def fnd (r : Int → Int → Option Int) (es : List Ed) (n : Int) (a : Nat) : List (Int × Int) := (List.range a).flatMap fun a => fndA r es n a a
theorem fndA_succ (r : Int → Int → Option Int) (es : List Ed) (n : Int) (a b : Nat) : fndA r es n a (b + 1) = fndA r es n a b ++ if zdZ r es n a b then [((a : Int), (b : Int))] else [] := by
  unfold fndA
  rw [List.range_succ, List.filter_append, List.map_append]
  congr 1
  by_cases e : zdZ r es n (a : Int) (b : Int) = true
  · rw [if_pos e]; simp [e]
  · rw [if_neg e]; simp [e]
theorem fnd_succ (r : Int → Int → Option Int) (es : List Ed) (n : Int) (a : Nat) : fnd r es n (a + 1) = fnd r es n a ++ fndA r es n a a := by
  unfold fnd
  rw [List.range_succ, List.flatMap_append]
  simp
theorem fndA_len (r : Int → Int → Option Int) (es : List Ed) (n : Int) (a b : Nat) : (fndA r es n a b).length ≤ b := by
  unfold fndA
  rw [List.length_map]
  exact Nat.le_trans (List.length_filter_le _ _) (by simp)
theorem fnd_len (r : Int → Int → Option Int) (es : List Ed) (n : Int) {N : Nat} : ∀ a, a ≤ N → (fnd r es n a).length ≤ a * N
  | 0, _ => by simp [fnd]
  | a + 1, h => by
    rw [fnd_succ, List.length_append, Nat.succ_mul]
    have := fnd_len r es n (N := N) a (by omega)
    have := fndA_len r es n a a
    omega
abbrev prL (p : Int × Int) : List Value := [.int .i64 p.1, .int .i64 p.2]
theorem apart5 (es : List Ed) (hs : zbu es) (hsz : es.length ≤ 1000) (N : Nat) (hN : N ≤ 200) (lb : Int) (r : Int → Int → Option Int) (n : Int) (hn : 1 ≤ n ∧ n ≤ 1000000) (m pg : Nat) (sl : Value) (a : Nat) (haN : a < N) (rows : List (Int × Int)) (hrows : rows.length ≤ 100000) (h0 : H) (hrow : Row h0 3 sl (es.map edL)) (hm : MapM h0 m (rV r)) (hml : m < h0.next) (hgg : h0.get pg = some (.cells (gL (N : Int) lb sl) 0)) (hpg : pg < h0.next) (lo : Nat) (hlo : lo ≤ h0.next) (hmlo : m < lo) (hpglo : pg < lo) (hsllo : ∀ b o n c, sl = .slice (some ⟨b, o, none⟩) n c → b < lo) {P : Value → H → Prop}
    (hP : ∀ h' fv ob, FrD (fun j => lo ≤ j) h0 h' → Grow h' 2 fv ((rows ++ fndA r es n a a).map prL) ob → (∀ q, ob = some q → lo ≤ q) → OkV (sh (rI F) zhb (K_c_4 (rI F)) (setL [p1, p3, p4, p5, p18, p19] [ptr pg, .map (some m), .int .i64 n, fv, .int .i64 (N : Int), .int .i64 (a : Int)]) h') P) :
    ∀ (k b : Nat) (h : H) (fv : Value) (ob : Option Nat), b + k = a → FrD (fun j => lo ≤ j) h0 h → Grow h 2 fv ((rows ++ fndA r es n a b).map prL) ob → (∀ q, ob = some q → lo ≤ q) →
    OkV (sh (rI F) zha (K_c_5 (rI F)) (setL [p1, p3, p4, p5, p6, p18, p19, p22, p23] [ptr pg, .map (some m), .int .i64 n, fv, .int .i64 (a : Int), .int .i64 (N : Int), .int .i64 (a : Int), .int .i64 (a : Int), .int .i64 (b : Int)]) h) P := by
  intro k
  induction k with
  | zero =>
    intro b h fv ob hb hf hg hob
    have e : b = a := by omega
    subst e
    rw [s_c_5]
    simp (disch := first | omega | (simp only [za, zb]; done) | (simp only [za, zb]; omega)) []
    exact hP h fv ob hf hg hob
  | succ k ih =>
    intro b h fv ob hb hf hg hob
    have hba : b < a := by omega
    have hfn := hf.next
    have hsucc := fndA_succ r es n a b
    have hv := hrow.slvM
    have hm1 := hm.fr hf hml (by omega)
    have hrow1 := hrow.frD hf (fun b o n c e => by have := hsllo b o n c e; omega)
    have gpg := (hf.get _ hpg (by omega)).trans hgg
    have hlk := look_ok hm1 (.int .i64 0) (a : Int) (b : Int)
    rw [s_c_5]
    have skip : zdZ r es n a b = false → ∀ h', Fr h h' → OkV (sh (rI F) zir (K_c_6 (rI F)) (setL [p1, p3, p4, p5, p6, p18, p19, p22, p23] [ptr pg, .map (some m), .int .i64 n, fv, .int .i64 (a : Int), .int .i64 (N : Int), .int .i64 (a : Int), .int .i64 (a : Int), .int .i64 (b : Int)]) h') P := by
      intro hc h' hf'
      rw [s_c_6]
      have := ih (b + 1) h' fv ob (by omega) (hf.trans hf'.D) (by rw [hsucc, hc]; simpa using hg.fr hf') hob
      refine OkV.eq (this.lp (l_c_5 F _ _ _ _ _ _ _ _ _ _)) ?_
      simp (disch := first | omega | (simp only [za, zb]; done) | (simp only [za, zb]; omega)) [zN]
    cases hr : r a b with
    | some v =>
      simp only [rV, hr, Option.map_none, Option.map_some, Option.getD_none, Option.getD_some, Option.isSome_none, Option.isSome_some] at hlk
      refine OkV.eq (skip (by simp [zdZ, hr]) h (.refl _)) ?_
      simp (disch := first | omega | (simp only [za, zb]; done) | (simp only [za, zb]; omega)) [hba, hlk, zp]
    | none =>
      simp only [rV, hr, Option.map_none, Option.map_some, Option.getD_none, Option.getD_some, Option.isSome_none, Option.isSome_some] at hlk
      obtain ⟨h1, e1, hf1⟩ := first_ok es hs hsz (N : Int) lb r m (a : Int) (b : Int) (n - 1) sl h hrow1 hm1 (by omega)
      have hfn1 := hf1.next
      have take : zdZ r es n a b = true → ∀ h', Fr h h' → OkV (sh (rI F) c_c_7 (K_c_7 (rI F)) (setL [p1, p3, p4, p5, p6, p7, p11, p18, p19, p22, p23] [ptr pg, .map (some m), .int .i64 n, fv, .int .i64 (a : Int), .int .i64 (b : Int), .bool true, .int .i64 (N : Int), .int .i64 (a : Int), .int .i64 (a : Int), .int .i64 (b : Int)]) h') P := by
        intro hc h' hf'
        rw [s_c_7]
        simp (disch := first | omega | (simp only [za, zb]; done) | (simp only [za, zb]; omega)) [zp, zl]
        obtain ⟨h2, eh2⟩ : ∃ h2, h2 = h'.new (.cells [.int .i64 (a : Int), .int .i64 (b : Int)] 0) := ⟨_, rfl⟩
        have hf2 : Fr h h2 := by rw [eh2]; exact hf'.newR _
        have hn2 : h2.next = h'.next + 1 := by rw [eh2]; simp
        have hfn' := hf'.next
        have hfl := fndA_len r es n a b
        obtain ⟨h3, fv', ea, hg3, hn3, hf3⟩ := zcL (h := h2) (sz := 2) (bytes := 16) (r := prL ((a : Int), (b : Int))) (b := h'.next) (e := 0) (by omega) (by decide) (hg.fr hf2) (by rw [eh2]; simp) rfl rfl rfl (by rw [List.length_map, List.length_append]; omega)
        rw [← eh2, ea]
        simp (disch := first | omega | (simp only [za, zb]; done) | (simp only [za, zb]; omega)) []
        rw [s_c_6]
        have := ih (b + 1) h3 fv' (some h2.next) (by omega) ⟨by omega, fun i hi hd => (hf3.get _ (by omega) (fun e => hd (hob _ e))).trans ((hf2.get _ (by omega)).trans (hf.get _ hi hd))⟩ (by rw [hsucc, if_pos hc, ← List.append_assoc, List.map_append]; exact hg3) (fun q e => by cases e; omega)
        refine OkV.eq (this.lp (l_c_5 F _ _ _ _ _ _ _ _ _ _)) ?_
        simp (disch := first | omega | (simp only [za, zb]; done) | (simp only [za, zb]; omega)) [zN]
      have leave : zdZ r es n a b = false → ∀ h', Fr h h' → OkV (sh (rI F) c_c_7 (K_c_7 (rI F)) (setL [p1, p3, p4, p5, p6, p7, p11, p18, p19, p22, p23] [ptr pg, .map (some m), .int .i64 n, fv, .int .i64 (a : Int), .int .i64 (b : Int), .bool false, .int .i64 (N : Int), .int .i64 (a : Int), .int .i64 (a : Int), .int .i64 (b : Int)]) h') P := by
        intro hc h' hf'
        rw [s_c_7]
        simp (disch := first | omega | (simp only [za, zb]; done) | (simp only [za, zb]; omega)) []
        exact skip hc h' hf'
      cases h1c : zbp r es a b (n - 1) with
      | some x =>
        rw [h1c] at e1
        have hf1' : Fr h (h1.new (.cells (edL x) 0)) := hf1.newR _
        refine OkV.eq (take (by simp [zdZ, hr, h1c]) _ hf1') ?_
        simp only [zcr, zcr.pairV'] at e1
        simp (disch := first | omega | (simp only [za, zb]; done) | (simp only [za, zb]; omega)) [hba, hlk, zp, gpg, hv.clean, hv.take, zdJ, e1]
      | none =>
        rw [h1c] at e1
        simp only [zcr, zcr.pairV'] at e1
        have hf1' : Fr h (h1.new (.cells (edL (0, 0, 0)) 0)) := hf1.newR _
        obtain ⟨h2, e2, hf2⟩ := first_ok es hs hsz (N : Int) lb r m (b : Int) (a : Int) (n - 1) sl (h1.new (.cells (edL (0, 0, 0)) 0)) (hrow1.fr hf1') (hm1.fr (D := fun _ => False) hf1'.D (by omega) (by simp)) (by simp; omega)
        have gpg1 := (hf1.get _ (by omega)).trans gpg
        cases h2c : zbp r es b a (n - 1) with
        | some x =>
          rw [h2c] at e2
          simp only [zcr, zcr.pairV'] at e2
          refine OkV.eq (take (by simp [zdZ, hr, h1c, h2c]) _ (hf1'.trans hf2)) ?_
          simp (disch := first | omega | (simp only [za, zb]; done) | (simp only [za, zb]; omega)) [hba, hlk, zp, gpg, gpg1, hv.clean, hv.take, zdJ, e1, e2]
        | none =>
          rw [h2c] at e2
          simp only [zcr, zcr.pairV'] at e2
          refine OkV.eq (leave (by simp [zdZ, hr, h1c, h2c]) _ (hf1'.trans hf2)) ?_
          simp (disch := first | omega | (simp only [za, zb]; done) | (simp only [za, zb]; omega)) [hba, hlk, zp, gpg, gpg1, hv.clean, hv.take, zdJ, e1, e2]
end Go.Ideal.J
namespace Go.Ideal.J
open Go Go.Ideal
def setR (r : Int → Int → Option Int) (n : Int) (p : Int × Int) : Int → Int → Option Int := fun c d => if (c = p.1 ∧ d = p.2) ∨ (c = p.2 ∧ d = p.1) then some n else r c d
def zc9 (r : Int → Int → Option Int) (n : Int) (l : List (Int × Int)) : Int → Int → Option Int := l.foldl (fun r p => setR r n p) r
theorem rV_set (r : Int → Int → Option Int) (n : Int) (p : Int × Int) : upd2 (upd2 (rV r) p.1 p.2 (.int .i64 n)) p.2 p.1 (.int .i64 n) = rV (setR r n p) := by
  funext c d
  unfold upd2 setR rV; dsimp only
  by_cases h1 : c = p.2 ∧ d = p.1
  · rw [if_pos h1, if_pos (.inr h1)]; rfl
  · rw [if_neg h1]
    by_cases h2 : c = p.1 ∧ d = p.2
    · rw [if_pos h2, if_pos (.inl h2)]; rfl
    · rw [if_neg h2, if_neg (fun h => h.elim h2 h1)]
theorem zbE (n : Int) : ∀ (l : List (Int × Int)) (r : Int → Int → Option Int) (c d : Int), zc9 r n l c d = if (c, d) ∈ l ∨ (d, c) ∈ l then some n else r c d
  | [], r, c, d => by simp [zc9]
  | p :: l, r, c, d => by
    show zc9 (setR r n p) n l c d = _
    rw [zbE n l]
    by_cases h : (c, d) ∈ l ∨ (d, c) ∈ l
    · rw [if_pos h, if_pos (h.imp (fun h => List.mem_cons_of_mem _ h) (fun h => List.mem_cons_of_mem _ h))]
    · rw [if_neg h]
      unfold setR
      by_cases h2 : (c = p.1 ∧ d = p.2) ∨ (c = p.2 ∧ d = p.1)
      · rw [if_pos h2, if_pos]
        rcases h2 with ⟨rfl, rfl⟩ | ⟨rfl, rfl⟩
        · exact .inl (by simp)
        · exact .inr (by simp)
      · rw [if_neg h2, if_neg]
        rintro (h3 | h3)
        · rcases List.mem_cons.1 h3 with h3 | h3
          · exact h2 (.inl ⟨by rw [← h3], by rw [← h3]⟩)
          · exact h (.inl h3)
        · rcases List.mem_cons.1 h3 with h3 | h3
          · exact h2 (.inr ⟨by rw [← h3], by rw [← h3]⟩)
          · exact h (.inr h3)
def rN (es : List Ed) (N : Nat) : Nat → Int → Int → Option Int
  | 0 => fun _ _ => none
  | k + 1 => zc9 (rN es N k) ((k : Int) + 1) (fnd (rN es N k) es ((k : Int) + 1) N)
def allP (N : Nat) : List (Nat × Nat) := (List.range N).flatMap fun a => (List.range a).map fun b => (a, b)
def meas (N : Nat) (r : Int → Int → Option Int) : Nat := (allP N).countP fun p => (r p.1 p.2).isNone
theorem countP_le {α : Type} {p q : α → Bool} : ∀ {l : List α}, (∀ x ∈ l, q x = true → p x = true) → l.countP q ≤ l.countP p
  | [], _ => by simp
  | a :: l, h => by
    have ih := countP_le (l := l) fun x hx => h x (by simp [hx])
    have ha := h a (by simp)
    rw [List.countP_cons, List.countP_cons]
    cases hq : q a
    · simp; omega
    · rw [ha hq]; simp; omega
theorem countP_lt {α : Type} {p q : α → Bool} : ∀ {l : List α}, (∀ x ∈ l, q x = true → p x = true) → (∃ x ∈ l, p x = true ∧ q x = false) → l.countP q < l.countP p
  | [], _, ⟨x, hx, _⟩ => by cases hx
  | a :: l, h, ⟨x, hx, h1, h2⟩ => by
    have hle := countP_le (l := l) fun x hx => h x (by simp [hx])
    have ha := h a (by simp)
    rw [List.countP_cons, List.countP_cons]
    rcases List.mem_cons.1 hx with rfl | hx
    · rw [h1, h2]; simp; omega
    · have := countP_lt (l := l) (fun x hx => h x (by simp [hx])) ⟨x, hx, h1, h2⟩
      cases hq : q a
      · simp; omega
      · rw [ha hq]; simp; omega
theorem mem_allP {N a b : Nat} : (a, b) ∈ allP N ↔ a < N ∧ b < a := by
  unfold allP
  rw [List.mem_flatMap]
  constructor
  · rintro ⟨a', h1, h2⟩
    obtain ⟨b', h3, h4⟩ := List.mem_map.1 h2
    cases h4
    exact ⟨List.mem_range.1 h1, List.mem_range.1 h3⟩
  · rintro ⟨h1, h2⟩
    exact ⟨a, List.mem_range.2 h1, List.mem_map.2 ⟨b, List.mem_range.2 h2, rfl⟩⟩
theorem zgd {r : Int → Int → Option Int} {es : List Ed} {n : Int} {N : Nat} {p : Int × Int} : p ∈ fnd r es n N ↔ ∃ a b : Nat, p = ((a : Int), (b : Int)) ∧ a < N ∧ b < a ∧ zdZ r es n a b = true := by
  unfold fnd fndA
  rw [List.mem_flatMap]
  constructor
  · rintro ⟨a, h1, h2⟩
    obtain ⟨b, h3, rfl⟩ := List.mem_map.1 h2
    obtain ⟨h4, h5⟩ := List.mem_filter.1 h3
    exact ⟨a, b, rfl, List.mem_range.1 h1, List.mem_range.1 h4, h5⟩
  · rintro ⟨a, b, rfl, h1, h2, h3⟩
    exact ⟨a, List.mem_range.2 h1, List.mem_map.2 ⟨b, List.mem_filter.2 ⟨List.mem_range.2 h2, h3⟩, rfl⟩⟩
theorem meas_lt {r : Int → Int → Option Int} {es : List Ed} {n : Int} {N : Nat} (h : fnd r es n N ≠ []) : meas N (zc9 r n (fnd r es n N)) < meas N r := by
  unfold meas
  refine countP_lt (fun x hx hq => ?_) ?_
  · rw [zbE] at hq
    split at hq
    · cases hq
    · exact hq
  · obtain ⟨p, l, e⟩ := List.exists_cons_of_ne_nil h
    have hp : p ∈ fnd r es n N := by rw [e]; simp
    obtain ⟨a, b, rfl, h1, h2, h3⟩ := zgd.1 hp
    refine ⟨(a, b), mem_allP.2 ⟨h1, h2⟩, ?_, ?_⟩
    · unfold zdZ at h3
      rw [Bool.and_eq_true] at h3
      exact h3.1
    · rw [zbE, if_pos (.inl hp)]; rfl
theorem apart8 (n : Int) (m pg : Nat) (l : List (Int × Int)) (hl : l.length ≤ 100000) (fv : Value) (h0 : H) (hrow : Row h0 2 fv (l.map prL)) (hfm : ∀ b o n c, fv = .slice (some ⟨b, o, none⟩) n c → b ≠ m) (hml : m < h0.next) {P : Value → H → Prop} (r : Int → Int → Option Int)
    (hP : ∀ h', FrD (fun j => j = m) h0 h' → MapM h' m (rV (zc9 r n l)) → OkV (sh (rI F) c_c_1 (K_c_1 (rI F)) (setL [p1, p3, p4] [ptr pg, .map (some m), .int .i64 n]) h') P) :
    ∀ (k i : Nat) (h : H), i + k = l.length → FrD (fun j => j = m) h0 h → MapM h m (rV (zc9 r n (l.take i))) →
    OkV (sh (rI F) zg9 (K_c_8 (rI F)) (setL [p1, p3, p4, p70, p71, p72] [ptr pg, .map (some m), .int .i64 n, fv, .int .i64 (l.length : Int), .int .i64 (i : Int)]) h) P := by
  intro k
  induction k with
  | zero =>
    intro i h hi hf hm
    have e : i = l.length := by omega
    subst e
    rw [List.take_length] at hm
    rw [s_c_8]
    simp (disch := first | omega | (simp only [za, zb]; done) | (simp only [za, zb]; omega)) []
    exact hP h hf hm
  | succ k ih =>
    intro i h hi hf hm
    have hil : i < l.length := by omega
    have hx : (l.map prL)[i]? = some (prL l[i]) := by simp [hil]
    have htk : l.take (i + 1) = l.take i ++ [l[i]] := by rw [List.take_add_one, List.getElem?_eq_getElem hil]; rfl
    obtain ⟨b, o, cs, e, hv, hb, hg, htc⟩ := (hrow.frD hf hfm).index hx
    generalize l[i] = p at *
    obtain ⟨p1', p2'⟩ := p
    have hfn := hf.next
    obtain ⟨h1, eh1⟩ : ∃ h1, h1 = h.new (.cells [.int .i64 p1', .int .i64 p2'] 0) := ⟨_, rfl⟩
    have hf1 : Fr h h1 := by rw [eh1]; exact .new _ _
    have hn1 : h1.next = h.next + 1 := by rw [eh1]; simp
    have gp1 : h1.get h.next = some (.cells [.int .i64 p1', .int .i64 p2'] 0) := by rw [eh1]; simp
    obtain ⟨o1, e1, hm1⟩ := upd_ok (hm.fr (D := fun _ => False) hf1.D (by omega) (by simp)) p1' p2' (.int .i64 n)
    have gp2 : (h1.put m o1).get h.next = some (.cells [.int .i64 p1', .int .i64 p2'] 0) := by rw [zo (by omega)]; exact gp1
    obtain ⟨o2, e2, hm2⟩ := upd_ok hm1 p2' p1' (.int .i64 n)
    rw [put_put] at e2 hm2
    rw [rV_set _ n (p1', p2')] at hm2
    have := ih (i + 1) (h1.put m o2) (by omega) ((hf.trans hf1.D).put (.inr rfl) _) (by
      rw [htk]
      show MapM _ _ (rV ((l.take i ++ [(p1', p2')]).foldl (fun r p => setR r n p) r))
      rw [List.foldl_append]; exact hm2)
    rw [s_c_8]
    refine OkV.eq (this.lp (l_c_8 F _ _ _ _ _ _ _)) ?_
    have a1 : ∀ h' : H, zdA 2 1 (ptr h.next) (.int .i64 1) h' = some (.pointer (some ⟨h.next, 0 + 1 * 1, none⟩), h') := fun h' => rfl
    have a0 : ∀ h' : H, zdA 2 1 (ptr h.next) (.int .i64 0) h' = some (.pointer (some ⟨h.next, 0 + 0 * 1, none⟩), h') := fun h' => rfl
    simp (disch := first | omega | (simp only [za, zb]; done) | (simp only [za, zb]; omega)) [hil, hv, hg, htc, ← eh1, gp1, e1, gp2, zp, e2, zN, a1, a0]
theorem apart3 (es : List Ed) (hs : zbu es) (hsz : es.length ≤ 1000) (N : Nat) (hN : N ≤ 200) (lb : Int) (r : Int → Int → Option Int) (n : Int) (hn : 1 ≤ n ∧ n ≤ 1000000) (m pg : Nat) (sl : Value) (h0 : H) (hrow : Row h0 3 sl (es.map edL)) (hm : MapM h0 m (rV r)) (hml : m < h0.next) (hgg : h0.get pg = some (.cells (gL (N : Int) lb sl) 0)) (hpg : pg < h0.next) (lo : Nat) (hlo : lo ≤ h0.next) (hmlo : m < lo) (hpglo : pg < lo) (hsllo : ∀ b o n c, sl = .slice (some ⟨b, o, none⟩) n c → b < lo) {P : Value → H → Prop}
    (hP : ∀ h' fv ob, FrD (fun j => lo ≤ j) h0 h' → Grow h' 2 fv ((fnd r es n N).map prL) ob → (∀ q, ob = some q → lo ≤ q) → OkV (sh (rI F) zgt (ziQ (rI F)) (setL [p1, p3, p4, p5] [ptr pg, .map (some m), .int .i64 n, fv]) h') P) :
    ∀ (k a : Nat) (h : H) (fv : Value) (ob : Option Nat), a + k = N → FrD (fun j => lo ≤ j) h0 h → Grow h 2 fv ((fnd r es n a).map prL) ob → (∀ q, ob = some q → lo ≤ q) →
    OkV (sh (rI F) zhc (K_c_3 (rI F)) (setL [p1, p3, p4, p5, p18, p19] [ptr pg, .map (some m), .int .i64 n, fv, .int .i64 (N : Int), .int .i64 (a : Int)]) h) P := by
  intro k
  induction k with
  | zero =>
    intro a h fv ob ha hf hg hob
    have e : a = N := by omega
    subst e
    rw [s_c_3]
    simp (disch := first | omega | (simp only [za, zb]; done) | (simp only [za, zb]; omega)) []
    exact hP h fv ob hf hg hob
  | succ k ih =>
    intro a h fv ob ha hf hg hob
    have haN : a < N := by omega
    have hfn := hf.next
    have hfl := fnd_len r es n (N := N) a (by omega)
    have hNN : a * N ≤ 200 * 200 := Nat.mul_le_mul (by omega) hN
    rw [s_c_3]
    have := apart5 es hs hsz N hN lb r n hn m pg sl a haN (fnd r es n a) (by omega) h (hrow.frD hf (fun b o n c e => by have := hsllo b o n c e; omega)) (hm.fr hf hml (by omega)) (by omega) ((hf.get _ hpg (by omega)).trans hgg) (by omega) lo (by omega) hmlo hpglo hsllo (P := P)
      (fun h' fv' ob' hf' hg' hob' => by
        rw [s_c_4]
        have := ih (a + 1) h' fv' ob' (by omega) (hf.trans hf') (by rw [fnd_succ]; exact hg') hob'
        refine OkV.eq (this.lp (l_c_3 F _ _ _ _ _ _ _)) ?_
        simp (disch := first | omega | (simp only [za, zb]; done) | (simp only [za, zb]; omega)) [zN]) a 0 h fv ob (by omega) (.refl _ _) (by simpa [fndA] using hg) hob
    refine OkV.eq (this.lp (l_c_5 F _ _ _ _ _ _ _ _ _ _)) ?_
    simp (disch := first | omega | (simp only [za, zb]; done) | (simp only [za, zb]; omega)) [haN]
theorem apart0 (es : List Ed) (hs : zbu es) (hsz : es.length ≤ 1000) (N : Nat) (hN : N ≤ 200) (lb : Int) (m pg : Nat) (sl : Value) (h0 : H) (hrow : Row h0 3 sl (es.map edL)) (hml : m < h0.next) (hgg : h0.get pg = some (.cells (gL (N : Int) lb sl) 0)) (hpg : pg < h0.next) (hsl : ∀ b o n c, sl = .slice (some ⟨b, o, none⟩) n c → b ≠ m) (hpm : pg ≠ m) {P : Value → H → Prop}
    (hP : ∀ h' k, FrD (fun j => j = m) h0 h' → MapM h' m (rV (rN es N k)) → fnd (rN es N k) es ((k : Int) + 1) N = [] → P (.map (some m)) h') :
    ∀ (μ k : Nat) (h : H), meas N (rN es N k) = μ → k + μ ≤ 100000 → FrD (fun j => j = m) h0 h → MapM h m (rV (rN es N k)) →
    OkV (sh (rI F) zhd (K_c_0 (rI F)) (setL [p1, p3, p4] [ptr pg, .map (some m), .int .i64 ((k : Int) + 1)]) h) P := by
  intro μ
  induction μ using Nat.strongRecOn with
  | _ μ ih =>
    intro k h hμ hk hf hm
    have hfn := hf.next
    have gpg := (hf.get _ hpg hpm).trans hgg
    have hrow1 := hrow.frD hf hsl
    rw [s_c_0]
    have := apart3 es hs hsz N hN lb (rN es N k) ((k : Int) + 1) (by omega) m pg sl h hrow1 hm (by omega) gpg (by omega) h.next (Nat.le_refl _) (by omega) (by omega) (fun b o n c e => hrow1.lt e) (P := P)
      (fun h' fv ob hf' hg' hob' => by
        have hfn' := hf'.next
        have hff : Fr h h' := hf'.fr (by omega)
        have hv := hg'.slvM
        rw [s_c_2]
        by_cases hnil : fnd (rN es N k) es ((k : Int) + 1) N = []
        · have hl0 : (fnd (rN es N k) es ((k : Int) + 1) N).length = 0 := by rw [hnil]; rfl
          refine OkV.eq (OkV.val (hP h' k (hf.trans hff.D) (hm.fr (D := fun _ => False) hff.D (by omega) (by simp)) hnil)) ?_
          simp (disch := first | omega | (simp only [za, zb]; done) | (simp only [za, zb]; omega)) [hv.len, hl0]
        · have hl0 : ¬ ((fnd (rN es N k) es ((k : Int) + 1) N).length : Int) = 0 := by
            have := List.length_pos_iff.2 hnil; omega
          have hfl := fnd_len (rN es N k) es ((k : Int) + 1) (N := N) N (Nat.le_refl _)
          have hNN : N * N ≤ 200 * 200 := Nat.mul_le_mul hN hN
          have hlt := meas_lt hnil
          have h8 := apart8 ((k : Int) + 1) m pg (fnd (rN es N k) es ((k : Int) + 1) N) (by omega) fv h' (hg'.row (by omega)) (fun b o n c e => by have := hob' _ (hg'.block e); omega) (by omega) (P := P) (rN es N k)
            (fun h'' hf'' hm'' => by
              rw [s_c_1]
              have := ih (meas N (rN es N (k + 1))) (by rw [← hμ]; exact hlt) (k + 1) h'' rfl (by
                have : meas N (rN es N (k + 1)) < μ := by rw [← hμ]; exact hlt
                omega) ((hf.trans hff.D).trans hf'') hm''
              refine OkV.eq (this.lp (l_c_0 F _ _ _ _)) ?_
              simp (disch := first | omega | (simp only [za, zb]; done) | (simp only [za, zb]; omega)) [zN]) (fnd (rN es N k) es ((k : Int) + 1) N).length 0 h' (by omega) (.refl _ _) (by simpa [zc9] using hm.fr (D := fun _ => False) hff.D (by omega) (by simp))
          refine OkV.eq (h8.lp (l_c_8 F _ _ _ _ _ _ _)) ?_
          have hl0' : ¬ (fnd (rN es N k) es ((k : Int) + 1) N) = [] := hnil
          simp (disch := first | omega | (simp only [za, zb]; done) | (simp only [za, zb]; omega)) [hv.len, hl0, hl0']) N 0 h (.slice none 0 0) none (by omega) (.refl _ _) (by simpa [fnd] using Grow.nil) (by simp)
    refine OkV.eq (this.lp (l_c_3 F _ _ _ _ _ _ _)) ?_
    simp (disch := first | omega | (simp only [za, zb]; done) | (simp only [za, zb]; omega)) [gpg]
theorem meas_le (N : Nat) (r : Int → Int → Option Int) : meas N r ≤ N * N := by
  have : (allP N).length ≤ N * N := by
    unfold allP
    have key : ∀ n, n ≤ N → ((List.range n).flatMap fun a => (List.range a).map fun b => (a, b)).length ≤ n * N := by
      intro n
      induction n with
      | zero => intro _; simp
      | succ n ih =>
        intro h
        rw [List.range_succ, List.flatMap_append, List.length_append, Nat.succ_mul]
        have := ih (by omega)
        simp only [List.flatMap_cons, List.flatMap_nil, List.append_nil, List.length_map, List.length_range]
        omega
    exact key N (Nat.le_refl _)
  exact Nat.le_trans List.countP_le_length this
theorem apart_ok (es : List Ed) (hs : zbu es) (hsz : es.length ≤ 1000) (N : Nat) (hN : N ≤ 200) (lb : Int) (sl : Value) (h : H) (hrow : Row h 3 sl (es.map edL)) {P : Value → H → Prop}
    (hP : ∀ h' m k, Fr h h' → h.next ≤ m → m < h'.next → MapM h' m (rV (rN es N k)) → fnd (rN es N k) es ((k : Int) + 1) N = [] → P (.map (some m)) h') : Ret F (fnV n_c) [gV (N : Int) lb sl] h P := by
  refine Ret.fn F_c 1 (by decide) ?_
  rw [s_c]
  obtain ⟨h2, eh2⟩ : ∃ h2, h2 = (h.new (.cells (gL (N : Int) lb sl) 0)).new (.map [] 0) := ⟨_, rfl⟩
  have hf2 : Fr h h2 := by rw [eh2]; exact (Fr.new _ _).newR _
  have hn2 : h2.next = h.next + 2 := by rw [eh2]; simp
  have hNN : N * N ≤ 200 * 200 := Nat.mul_le_mul hN hN
  have := apart0 es hs hsz N hN lb (h.next + 1) h.next sl h2 (hrow.fr hf2) (by omega) (by rw [eh2]; simp (disch := omega)) (by omega) (fun b o n c e => by have := hrow.lt e; omega) (by omega) (P := P) (fun h' k hf' hm' hk => hP h' (h.next + 1) k ⟨by have := hf'.next; omega, fun i hi => (hf'.get _ (by omega) (by omega)).trans (hf2.get _ hi)⟩ (by omega) (by have := hf'.next; omega) hm' hk) (meas N (rN es N 0)) 0 h2 rfl (by have := meas_le N (rN es N 0); omega) (.refl _ _) ⟨[], 0, by rw [eh2]; simp (disch := omega), .nil⟩
  refine OkV.eq (this.lp (l_c_0 F _ _ _ _)) ?_
  rw [eh2]
  simp (disch := first | omega | (simp only [za, zb]; done) | (simp only [za, zb]; omega)) []
end Go.Ideal.J
