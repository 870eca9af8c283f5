/- A part of the proof: the ideal machine, and what the functions of the program answer over it. -/
import Derived.Test.YtanaepeilcjhcaaD
set_option linter.unusedSimpArgs false
set_option linter.unusedVariables false
noncomputable section
namespace Go.Ideal.J
open Go Go.Ideal
set_option maxRecDepth 100000
theorem s_M (X : Rn) (t0 t1 t2 : Value) (h : H) : zl X 3 f_M [t0, t1, t2] h =
    k2 (some (zh h (zi t0))) fun t3 h1 =>
    k2 (some (zh h1 (zi t1))) fun t4 h2 =>
    k2 (some ((.bool false), h2)) fun t6 h3 =>
    k2 (some (t2, h3)) fun t15 h4 =>
    k2 (bltV h4 .len [t15]) fun t16 h5 =>
    k2 (vBin .gtr .other t16 (.int .i64 200) h5) fun t17 h6 =>
    br t17
      (k2 (X.call (.func (.func n_F) #[] #[]) [] h6) fun t18 h7 =>
    k2 (some (t18, h7)) fun t6 h8 =>
    some (.val (zg [t6]) h8))
      (k2 (zj 3 t3 h6) fun t20 h9 =>
    k2 (zj 3 t4 h9) fun t21 h10 =>
    k2 (X.call (.func (.func n_L) #[] #[]) [t20, t21] h10) fun t22 h11 =>
    k2 (some (t22, h11)) fun t19 h12 =>
    k2 (zm 0 t19 h12) fun t23 h13 =>
    k2 (zm 1 t19 h13) fun t24 h14 =>
    k2 (some (t23, h14)) fun t7 h15 =>
    k2 (some (t24, h15)) fun t8 h16 =>
    k2 (zj 3 t3 h16) fun t26 h17 =>
    k2 (zj 3 t4 h17) fun t27 h18 =>
    k2 (X.call (.func (.func n_K) #[] #[]) [t26, t27] h18) fun t28 h19 =>
    k2 (some (t28, h19)) fun t25 h20 =>
    k2 (zm 0 t25 h20) fun t29 h21 =>
    k2 (zm 1 t25 h21) fun t30 h22 =>
    k2 (some (t29, h22)) fun t9 h23 =>
    k2 (some (t30, h23)) fun t10 h24 =>
    k2 (zj 3 t3 h24) fun t32 h25 =>
    k2 (zj 3 t4 h25) fun t33 h26 =>
    k2 (some (t2, h26)) fun t34 h27 =>
    k2 (X.call (.func (.func n_T) #[] #[]) [t32, t33, t34] h27) fun t35 h28 =>
    k2 (some (t35, h28)) fun t31 h29 =>
    k2 (zm 0 t31 h29) fun t36 h30 =>
    k2 (zm 1 t31 h30) fun t37 h31 =>
    k2 (some (t36, h31)) fun t11 h32 =>
    k2 (some (t37, h32)) fun t12 h33 =>
    k2 (zj 3 t3 h33) fun t39 h34 =>
    k2 (zj 3 t4 h34) fun t40 h35 =>
    k2 (some (t2, h35)) fun t41 h36 =>
    k2 (X.call (.func (.func n_a) #[] #[]) [t39, t40, t41] h36) fun t42 h37 =>
    k2 (some (t42, h37)) fun t38 h38 =>
    k2 (zm 0 t38 h38) fun t43 h39 =>
    k2 (zm 1 t38 h39) fun t44 h40 =>
    k2 (some (t43, h40)) fun t13 h41 =>
    k2 (some (t44, h41)) fun t14 h42 =>
    k2 (some (t7, h42)) fun t45 h43 =>
    k2 (some (t9, h43)) fun t46 h44 =>
    k2 (vBin .eql .bool t45 t46 h44) fun t47 h45 =>
    k2 (some (t47, h45)) fun t48 h46 =>
    k2 (gd t48 true h46 (some (t8, h46))) fun t49 h47 =>
    k2 (gd t48 true h47 (some (t10, h47))) fun t50 h48 =>
    k2 (gd t48 true h48 (vBin .eql .other t49 t50 h48)) fun t51 h49 =>
    k2 (zD t48 t51 (.bool false) h49) fun t52 h50 =>
    k2 (some (t52, h50)) fun t53 h51 =>
    k2 (gd t53 true h51 (some (t11, h51))) fun t54 h52 =>
    k2 (gd t53 true h52 (some (t13, h52))) fun t55 h53 =>
    k2 (gd t53 true h53 (vBin .eql .bool t54 t55 h53)) fun t56 h54 =>
    k2 (zD t53 t56 (.bool false) h54) fun t57 h55 =>
    k2 (some (t57, h55)) fun t58 h56 =>
    k2 (gd t58 true h56 (some (t12, h56))) fun t59 h57 =>
    k2 (gd t58 true h57 (some (t14, h57))) fun t60 h58 =>
    k2 (gd t58 true h58 (vBin .eql .other t59 t60 h58)) fun t61 h59 =>
    k2 (zD t58 t61 (.bool false) h59) fun t62 h60 =>
    k2 (some (t62, h60)) fun t63 h61 =>
    k2 (gd t63 true h61 (X.call (.func (.func n_F) #[] #[]) [] h61)) fun t64 h62 =>
    k2 (zD t63 t64 (.bool false) h62) fun t65 h63 =>
    k2 (some (t65, h63)) fun t6 h64 =>
    some (.val (zg [t6]) h64)) := by kernel_rfl
theorem s_o_0 (X : Rn) (h : H) : sh X zgn (K_o_0 X) (setL [] []) h =
    k2 (some ((.int .i64 0), h)) fun t2 h1 =>
    some (.val (zg [t2]) h1) := by kernel_rfl
theorem s_o_1 (X : Rn) (t1 t30 t31 t32 : Value) (h : H) : sh X zfS (K_o_1 X) (setL [p1, p30, p31, p32] [t1, t30, t31, t32]) h =
    k2 (vBin .lss .other t32 t31 h) fun t33 h1 =>
    br t33
      (k2 (some (t32, h1)) fun t34 h2 =>
    k2 (zr 3 t30 t32 h2) fun t35 h3 =>
    k2 (zj 3 t35 h3) fun t36 h4 =>
    k2 (some (zh h4 [(.int .i64 0), (.int .i64 0), (.int .i64 0)])) fun t4 h5 =>
    k2 (some (t34, h5)) fun t3 h6 =>
    k2 (zq 3 t4 t36 h6) fun _ h7 =>
    k2 (zd 0 t4 h7) fun t37 h8 =>
    k2 (rdF (fun b => zc t37 b) 0 h8 [(0, h7)]) fun t38 h9 =>
    k2 (zd 1 t4 h9) fun t39 h10 =>
    k2 (rdF (fun b => zc t39 b) 0 h10 [(0, h7)]) fun t40 h11 =>
    k2 (zd 2 t4 h11) fun t41 h12 =>
    k2 (rdF (fun b => zc t41 b) 0 h12 [(0, h7)]) fun t42 h13 =>
    k2 (bltV h13 .min [t38, t40, t42]) fun t43 h14 =>
    k2 (vBin .lss .other t43 (.int .i64 0) h14) fun t44 h15 =>
    k2 (some (t44, h15)) fun t45 h16 =>
    k2 (gd t45 false h16 (zd 0 t4 h16)) fun t46 h17 =>
    k2 (gd t45 false h17 (rdF (fun b => zc t46 b) 0 h17 [(0, h7)])) fun t47 h18 =>
    k2 (gd t45 false h18 (zd 1 t4 h18)) fun t48 h19 =>
    k2 (gd t45 false h19 (rdF (fun b => zc t48 b) 0 h19 [(0, h7)])) fun t49 h20 =>
    k2 (gd t45 false h20 (bltV h20 .max [t47, t49])) fun t50 h21 =>
    k2 (gd t45 false h21 (zd 0 t1 h21)) fun t51 h22 =>
    k2 (gd t45 false h22 (rdF (fun b => zc t51 b) 0 h22 [(0, h7)])) fun t52 h23 =>
    k2 (gd t45 false h23 (vBin .geq .other t50 t52 h23)) fun t53 h24 =>
    k2 (zD t45 (.bool true) t53 h24) fun t54 h25 =>
    k2 (some (t54, h25)) fun t55 h26 =>
    k2 (gd t55 false h26 (zd 2 t4 h26)) fun t56 h27 =>
    k2 (gd t55 false h27 (rdF (fun b => zc t56 b) 0 h27 [(0, h7)])) fun t57 h28 =>
    k2 (gd t55 false h28 (zd 1 t1 h28)) fun t58 h29 =>
    k2 (gd t55 false h29 (rdF (fun b => zc t58 b) 0 h29 [(0, h7)])) fun t59 h30 =>
    k2 (gd t55 false h30 (vBin .geq .other t57 t59 h30)) fun t60 h31 =>
    k2 (zD t55 (.bool true) t60 h31) fun t61 h32 =>
    k2 (some (t61, h32)) fun t62 h33 =>
    k2 (gd t62 false h33 (some (t3, h33))) fun t63 h34 =>
    k2 (gd t62 false h34 (vBin .gtr .other t63 (.int .i64 0) h34)) fun t64 h35 =>
    k2 (gd t62 false h35 (some (t64, h35))) fun t65 h36 =>
    k2 (gd t65 true h36 (zd 2 t1 h36)) fun t66 h37 =>
    k2 (gd t65 true h37 (rdF (fun b => zc t66 b) 0 h37 [(0, h7)])) fun t67 h38 =>
    k2 (gd t65 true h38 (some (t3, h38))) fun t68 h39 =>
    k2 (gd t65 true h39 (vBin .sub .other t68 (.int .i64 1) h39)) fun t69 h40 =>
    k2 (gd t65 true h40 (zr 3 t67 t69 h40)) fun t70 h41 =>
    k2 (gd t65 true h41 (rdF (fun b => zj 3 t70 b) 0 h41 [(0, h7)])) fun t71 h42 =>
    k2 (gd t65 true h42 (rdF (fun b => zj 3 t4 b) 0 h42 [(0, h7)])) fun t72 h43 =>
    k2 (gd t65 true h43 (X.call (.func (.func n_J) #[] #[]) [t71, t72] h43)) fun t73 h44 =>
    k2 (gd t65 true h44 (vBin .geq .other t73 (.int .i64 0) h44)) fun t74 h45 =>
    k2 (gd t62 false h45 (zD t65 t74 (.bool false) h45)) fun t75 h46 =>
    k2 (zD t62 (.bool true) t75 h46) fun t76 h47 =>
    br t76
      (k2 (some ((.int .i64 2), h47)) fun t2 h48 =>
    some (.val (zg [t2]) h48))
      (k2 (vBin .add .other t32 (.int .i64 1) h47) fun t77 h49 =>
    k2 (some (t77, h49)) fun t32_50 h51 =>
    lp X [p1, p30, p31, p32] zfS (kBlk 0 (kSeq X zgn [] (K_o_0 X))) [t1, t30, t31, t32_50] h51))
      (sh X zgn (K_o_0 X) (setL [] []) h1) := by kernel_rfl
theorem l_o_1 (F : FuncId → Option zp) (t1 t30 t31 t32 : Value) (h : H) {r : Out} : let X := rI F; sh X zfS (K_o_1 X) (setL [p1, p30, p31, p32] [t1, t30, t31, t32]) h = some r → lp X [p1, p30, p31, p32] zfS (kBlk 0 (kSeq X zgn [] (K_o_0 X))) [t1, t30, t31, t32] h = some r := fun hv => zW (by decide) hv
theorem s_o (X : Rn) (t0 : Value) (h : H) : zl X 1 f_o [t0] h =
    k2 (some (zh h (zi t0))) fun t1 h1 =>
    k2 (some ((.int .i64 0), h1)) fun t2 h2 =>
    k2 (zd 0 t1 h2) fun t5 h3 =>
    k2 (zc t5 h3) fun t6 h4 =>
    k2 (vBin .lss .other t6 (.int .i64 1) h4) fun t7 h5 =>
    k2 (some (t7, h5)) fun t8 h6 =>
    k2 (gd t8 false h6 (zd 0 t1 h6)) fun t9 h7 =>
    k2 (gd t8 false h7 (zc t9 h7)) fun t10 h8 =>
    k2 (gd t8 false h8 (vBin .gtr .other t10 (.int .i64 60) h8)) fun t11 h9 =>
    k2 (zD t8 (.bool true) t11 h9) fun t12 h10 =>
    k2 (some (t12, h10)) fun t13 h11 =>
    k2 (gd t13 false h11 (zd 1 t1 h11)) fun t14 h12 =>
    k2 (gd t13 false h12 (zc t14 h12)) fun t15 h13 =>
    k2 (gd t13 false h13 (vBin .lss .other t15 (.int .i64 1) h13)) fun t16 h14 =>
    k2 (zD t13 (.bool true) t16 h14) fun t17 h15 =>
    k2 (some (t17, h15)) fun t18 h16 =>
    k2 (gd t18 false h16 (zd 1 t1 h16)) fun t19 h17 =>
    k2 (gd t18 false h17 (zc t19 h17)) fun t20 h18 =>
    k2 (gd t18 false h18 (vBin .gtr .other t20 (.int .i64 41) h18)) fun t21 h19 =>
    k2 (zD t18 (.bool true) t21 h19) fun t22 h20 =>
    k2 (some (t22, h20)) fun t23 h21 =>
    k2 (gd t23 false h21 (zd 2 t1 h21)) fun t24 h22 =>
    k2 (gd t23 false h22 (zc t24 h22)) fun t25 h23 =>
    k2 (gd t23 false h23 (bltV h23 .len [t25])) fun t26 h24 =>
    k2 (gd t23 false h24 (vBin .gtr .other t26 (.int .i64 400) h24)) fun t27 h25 =>
    k2 (zD t23 (.bool true) t27 h25) fun t28 h26 =>
    br t28
      (k2 (some ((.int .i64 2), h26)) fun t2 h27 =>
    some (.val (zg [t2]) h27))
      (k2 (zd 2 t1 h26) fun t29 h28 =>
    k2 (zc t29 h28) fun t30 h29 =>
    k2 (bltV h29 .len [t30]) fun t31 h30 =>
    k2 (some ((.int .i64 0), h30)) fun t32 h31 =>
    lp X [p1, p30, p31, p32] zfS (kBlk 0 (kSeq X zgn [] (K_o_0 X))) [t1, t30, t31, t32] h31) := by kernel_rfl
theorem s_k_0 (X : Rn) (h : H) : sh X c_k_0 (K_k_0 X) (setL [] []) h =
    k2 (some ((.int .i64 0), h)) fun t2 h1 =>
    some (.val (zg [t2]) h1) := by kernel_rfl
theorem ziN (X : Rn) (t1 t3 : Value) (h : H) : sh X ziU (K_k_1 X) (setL [p1, p3] [t1, t3]) h =
    k2 (some (t3, h)) fun t29 h1 =>
    k2 (zd 2 t1 h1) fun t30 h2 =>
    k2 (zc t30 h2) fun t31 h3 =>
    k2 (bltV h3 .len [t31]) fun t32 h4 =>
    k2 (vBin .lss .other t29 t32 h4) fun t33 h5 =>
    br t33
      (k2 (zd 2 t1 h5) fun t36 h6 =>
    k2 (zc t36 h6) fun t37 h7 =>
    k2 (some (t3, h7)) fun t38 h8 =>
    k2 (zr 3 t37 t38 h8) fun t39 h9 =>
    k2 (zj 3 t39 h9) fun t40 h10 =>
    k2 (some (zh h10 [(.int .i64 0), (.int .i64 0), (.int .i64 0)])) fun t4 h11 =>
    k2 (zq 3 t4 t40 h11) fun _ h12 =>
    k2 (zd 0 t4 h12) fun t41 h13 =>
    k2 (rdF (fun b => zc t41 b) 0 h13 [(0, h12)]) fun t42 h14 =>
    k2 (vBin .lss .other t42 (.int .i64 0) h14) fun t43 h15 =>
    k2 (some (t43, h15)) fun t44 h16 =>
    k2 (gd t44 false h16 (zd 0 t4 h16)) fun t45 h17 =>
    k2 (gd t44 false h17 (rdF (fun b => zc t45 b) 0 h17 [(0, h12)])) fun t46 h18 =>
    k2 (gd t44 false h18 (zd 0 t1 h18)) fun t47 h19 =>
    k2 (gd t44 false h19 (rdF (fun b => zc t47 b) 0 h19 [(0, h12)])) fun t48 h20 =>
    k2 (gd t44 false h20 (vBin .geq .other t46 t48 h20)) fun t49 h21 =>
    k2 (zD t44 (.bool true) t49 h21) fun t50 h22 =>
    k2 (some (t50, h22)) fun t51 h23 =>
    k2 (gd t51 false h23 (zd 1 t4 h23)) fun t52 h24 =>
    k2 (gd t51 false h24 (rdF (fun b => zc t52 b) 0 h24 [(0, h12)])) fun t53 h25 =>
    k2 (gd t51 false h25 (vBin .lss .other t53 (.int .i64 0) h25)) fun t54 h26 =>
    k2 (zD t51 (.bool true) t54 h26) fun t55 h27 =>
    k2 (some (t55, h27)) fun t56 h28 =>
    k2 (gd t56 false h28 (zd 1 t4 h28)) fun t57 h29 =>
    k2 (gd t56 false h29 (rdF (fun b => zc t57 b) 0 h29 [(0, h12)])) fun t58 h30 =>
    k2 (gd t56 false h30 (zd 0 t1 h30)) fun t59 h31 =>
    k2 (gd t56 false h31 (rdF (fun b => zc t59 b) 0 h31 [(0, h12)])) fun t60 h32 =>
    k2 (gd t56 false h32 (vBin .geq .other t58 t60 h32)) fun t61 h33 =>
    k2 (zD t56 (.bool true) t61 h33) fun t62 h34 =>
    k2 (some (t62, h34)) fun t63 h35 =>
    k2 (gd t63 false h35 (zd 2 t4 h35)) fun t64 h36 =>
    k2 (gd t63 false h36 (rdF (fun b => zc t64 b) 0 h36 [(0, h12)])) fun t65 h37 =>
    k2 (gd t63 false h37 (vBin .lss .other t65 (.int .i64 0) h37)) fun t66 h38 =>
    k2 (zD t63 (.bool true) t66 h38) fun t67 h39 =>
    k2 (some (t67, h39)) fun t68 h40 =>
    k2 (gd t68 false h40 (zd 2 t4 h40)) fun t69 h41 =>
    k2 (gd t68 false h41 (rdF (fun b => zc t69 b) 0 h41 [(0, h12)])) fun t70 h42 =>
    k2 (gd t68 false h42 (zd 1 t1 h42)) fun t71 h43 =>
    k2 (gd t68 false h43 (rdF (fun b => zc t71 b) 0 h43 [(0, h12)])) fun t72 h44 =>
    k2 (gd t68 false h44 (vBin .geq .other t70 t72 h44)) fun t73 h45 =>
    k2 (zD t68 (.bool true) t73 h45) fun t74 h46 =>
    k2 (some (t74, h46)) fun t75 h47 =>
    k2 (gd t75 false h47 (some (t3, h47))) fun t76 h48 =>
    k2 (gd t75 false h48 (vBin .gtr .other t76 (.int .i64 0) h48)) fun t77 h49 =>
    k2 (gd t75 false h49 (some (t77, h49))) fun t78 h50 =>
    k2 (gd t78 true h50 (zd 2 t1 h50)) fun t79 h51 =>
    k2 (gd t78 true h51 (rdF (fun b => zc t79 b) 0 h51 [(0, h12)])) fun t80 h52 =>
    k2 (gd t78 true h52 (some (t3, h52))) fun t81 h53 =>
    k2 (gd t78 true h53 (vBin .sub .other t81 (.int .i64 1) h53)) fun t82 h54 =>
    k2 (gd t78 true h54 (zr 3 t80 t82 h54)) fun t83 h55 =>
    k2 (gd t78 true h55 (rdF (fun b => zj 3 t83 b) 0 h55 [(0, h12)])) fun t84 h56 =>
    k2 (gd t78 true h56 (rdF (fun b => zj 3 t4 b) 0 h56 [(0, h12)])) fun t85 h57 =>
    k2 (gd t78 true h57 (X.call (.func (.func n_O) #[] #[]) [t84, t85] h57)) fun t86 h58 =>
    k2 (gd t78 true h58 (vUn .not t86 h58)) fun t87 h59 =>
    k2 (gd t75 false h59 (zD t78 t87 (.bool false) h59)) fun t88 h60 =>
    k2 (zD t75 (.bool true) t88 h60) fun t89 h61 =>
    br t89
      (k2 (some ((.int .i64 2), h61)) fun t2 h62 =>
    some (.val (zg [t2]) h62))
      (k2 (some (t3, h61)) fun t34 h63 =>
    k2 (vBin .add .other t34 (.int .i64 1) h63) fun t35 h64 =>
    k2 (some (t35, h64)) fun t3_65 h66 =>
    lp X [p1, p3] ziU (kBlk 0 (kSeq X c_k_0 [] (K_k_0 X))) [t1, t3_65] h66))
      (sh X c_k_0 (K_k_0 X) (setL [] []) h5) := by kernel_rfl
theorem l_k_1 (F : FuncId → Option zp) (t1 t3 : Value) (h : H) {r : Out} : let X := rI F; sh X ziU (K_k_1 X) (setL [p1, p3] [t1, t3]) h = some r → lp X [p1, p3] ziU (kBlk 0 (kSeq X c_k_0 [] (K_k_0 X))) [t1, t3] h = some r := fun hv => zW (by decide) hv
theorem s_k (X : Rn) (t0 : Value) (h : H) : zl X 1 f_k [t0] h =
    k2 (some (zh h (zi t0))) fun t1 h1 =>
    k2 (some ((.int .i64 0), h1)) fun t2 h2 =>
    k2 (zd 0 t1 h2) fun t5 h3 =>
    k2 (zc t5 h3) fun t6 h4 =>
    k2 (vBin .lss .other t6 (.int .i64 1) h4) fun t7 h5 =>
    k2 (some (t7, h5)) fun t8 h6 =>
    k2 (gd t8 false h6 (zd 0 t1 h6)) fun t9 h7 =>
    k2 (gd t8 false h7 (zc t9 h7)) fun t10 h8 =>
    k2 (gd t8 false h8 (vBin .gtr .other t10 (.int .i64 60) h8)) fun t11 h9 =>
    k2 (zD t8 (.bool true) t11 h9) fun t12 h10 =>
    k2 (some (t12, h10)) fun t13 h11 =>
    k2 (gd t13 false h11 (zd 1 t1 h11)) fun t14 h12 =>
    k2 (gd t13 false h12 (zc t14 h12)) fun t15 h13 =>
    k2 (gd t13 false h13 (vBin .lss .other t15 (.int .i64 1) h13)) fun t16 h14 =>
    k2 (zD t13 (.bool true) t16 h14) fun t17 h15 =>
    k2 (some (t17, h15)) fun t18 h16 =>
    k2 (gd t18 false h16 (zd 1 t1 h16)) fun t19 h17 =>
    k2 (gd t18 false h17 (zc t19 h17)) fun t20 h18 =>
    k2 (gd t18 false h18 (vBin .gtr .other t20 (.int .i64 41) h18)) fun t21 h19 =>
    k2 (zD t18 (.bool true) t21 h19) fun t22 h20 =>
    k2 (some (t22, h20)) fun t23 h21 =>
    k2 (gd t23 false h21 (zd 2 t1 h21)) fun t24 h22 =>
    k2 (gd t23 false h22 (zc t24 h22)) fun t25 h23 =>
    k2 (gd t23 false h23 (bltV h23 .len [t25])) fun t26 h24 =>
    k2 (gd t23 false h24 (vBin .gtr .other t26 (.int .i64 400) h24)) fun t27 h25 =>
    k2 (zD t23 (.bool true) t27 h25) fun t28 h26 =>
    br t28
      (k2 (some ((.int .i64 2), h26)) fun t2 h27 =>
    some (.val (zg [t2]) h27))
      (k2 (some ((.int .i64 0), h26)) fun t3 h28 =>
    lp X [p1, p3] ziU (kBlk 0 (kSeq X c_k_0 [] (K_k_0 X))) [t1, t3] h28) := by kernel_rfl
theorem s_L (X : Rn) (t0 t1 : Value) (h : H) : zl X 2 f_L [t0, t1] h =
    k2 (some (zh h (zi t0))) fun t2 h1 =>
    k2 (some (zh h1 (zi t1))) fun t3 h2 =>
    k2 (some ((.bool false), h2)) fun t4 h3 =>
    k2 (some ((.int .i64 0), h3)) fun t5 h4 =>
    k2 (zj 3 t2 h4) fun t6 h5 =>
    k2 (zj 3 t3 h5) fun t7 h6 =>
    k2 (X.call (.func (.func n_N) #[] #[]) [t6, t7] h6) fun t8 h7 =>
    k2 (vUn .not t8 h7) fun t9 h8 =>
    br t9
      (k2 (some ((.bool false), h8)) fun t4 h9 =>
    k2 (some ((.int .i64 2), h9)) fun t5 h10 =>
    some (.val (zg [t4, t5]) h10))
      (k2 (zj 3 t2 h8) fun t10 h11 =>
    k2 (zj 3 t3 h11) fun t11 h12 =>
    k2 (X.call (.func (.func n_y) #[] #[]) [t10, t11] h12) fun t12 h13 =>
    k2 (some (t12, h13)) fun t4 h14 =>
    k2 (some ((.int .i64 0), h14)) fun t5 h15 =>
    some (.val (zg [t4, t5]) h15)) := by kernel_rfl
theorem s_K (X : Rn) (t0 t1 : Value) (h : H) : zl X 2 f_K [t0, t1] h =
    k2 (some (zh h (zi t0))) fun t2 h1 =>
    k2 (some (zh h1 (zi t1))) fun t3 h2 =>
    k2 (some ((.bool false), h2)) fun t4 h3 =>
    k2 (some ((.int .i64 0), h3)) fun t5 h4 =>
    k2 (zj 3 t2 h4) fun t6 h5 =>
    k2 (X.call (.func (.func n_k) #[] #[]) [t6] h5) fun t7 h6 =>
    k2 (vBin .neq .other t7 (.int .i64 0) h6) fun t8 h7 =>
    k2 (some (t8, h7)) fun t9 h8 =>
    k2 (gd t9 false h8 (zj 3 t3 h8)) fun t10 h9 =>
    k2 (gd t9 false h9 (X.call (.func (.func n_k) #[] #[]) [t10] h9)) fun t11 h10 =>
    k2 (gd t9 false h10 (vBin .neq .other t11 (.int .i64 0) h10)) fun t12 h11 =>
    k2 (zD t9 (.bool true) t12 h11) fun t13 h12 =>
    k2 (some (t13, h12)) fun t14 h13 =>
    k2 (gd t14 false h13 (zd 1 t2 h13)) fun t15 h14 =>
    k2 (gd t14 false h14 (zc t15 h14)) fun t16 h15 =>
    k2 (gd t14 false h15 (zd 1 t3 h15)) fun t17 h16 =>
    k2 (gd t14 false h16 (zc t17 h16)) fun t18 h17 =>
    k2 (gd t14 false h17 (vBin .neq .other t16 t18 h17)) fun t19 h18 =>
    k2 (zD t14 (.bool true) t19 h18) fun t20 h19 =>
    br t20
      (k2 (some ((.bool false), h19)) fun t4 h20 =>
    k2 (some ((.int .i64 2), h20)) fun t5 h21 =>
    some (.val (zg [t4, t5]) h21))
      (k2 (rdF (fun b => zj 3 t2 b) 0 h19 [(0, h19)]) fun t21 h22 =>
    k2 (rdF (fun b => zj 3 t3 b) 0 h22 [(0, h19)]) fun t22 h23 =>
    k2 (X.call (.func (.func n_h) #[] #[]) [t21, t22] h23) fun t23 h24 =>
    k2 (X.call (.func (.func n_c) #[] #[]) [t23] h24) fun t24 h25 =>
    k2 (zr 1 t24 (.int .i64 0) h25) fun t25 h26 =>
    k2 (rdF (fun b => zc t25 b) 2 h26 [(2, h25), (1, h24), (0, h19)]) fun t26 h27 =>
    k2 (zd 0 t2 h27) fun t27 h28 =>
    k2 (rdF (fun b => zc t27 b) 0 h28 [(2, h25), (1, h24), (0, h19)]) fun t28 h29 =>
    k2 (zr 1 t26 t28 h29) fun t29 h30 =>
    k2 (rdF (fun b => zc t29 b) 2 h30 [(2, h25), (1, h24), (0, h19)]) fun t30 h31 =>
    k2 (vBin .eql .other t30 (.int .i64 0) h31) fun t31 h32 =>
    k2 (some (t31, h32)) fun t4 h33 =>
    k2 (some ((.int .i64 0), h33)) fun t5 h34 =>
    some (.val (zg [t4, t5]) h34)) := by kernel_rfl
theorem s_a_2 (X : Rn) (h : H) : sh X c_a_2 (K_a_2 X) (setL [] []) h =
    k2 (some ((.bool true), h)) fun t6 h1 =>
    k2 (some ((.int .i64 0), h1)) fun t7 h2 =>
    some (.val (zg [t6, t7]) h2) := by kernel_rfl
theorem s_a_4 (X : Rn) (t2 t3 t4 t9 : Value) (h : H) : sh X c_a_4 (K_a_4 X) (setL [p2, p3, p4, p9] [t2, t3, t4, t9]) h =
    k2 (some (t9, h)) fun t77 h1 =>
    k2 (vBin .add .other t77 (.int .i64 1) h1) fun t78 h2 =>
    k2 (some (t78, h2)) fun t9_3 h4 =>
    lp X [p2, p3, p4, p9] c_a_3 (kBlk 2 (kSeq X c_a_2 [] (K_a_2 X))) [t2, t3, t4, t9_3] h4 := by kernel_rfl
theorem s_a_11 (X : Rn) (t2 t3 t4 t9 t10 t11 t15 : Value) (h : H) : sh X c_a_11 (K_a_11 X) (setL [p2, p3, p4, p9, p10, p11, p15] [t2, t3, t4, t9, t10, t11, t15]) h =
    k2 (some (t15, h)) fun t139 h1 =>
    k2 (vBin .add .other t139 (.int .i64 1) h1) fun t140 h2 =>
    k2 (some (t140, h2)) fun t15_3 h4 =>
    lp X [p2, p3, p4, p9, p10, p11, p15] zgP (kBlk 8 (zhb X)) [t2, t3, t4, t9, t10, t11, t15_3] h4 := by kernel_rfl
theorem s_a_12 (X : Rn) (t2 t3 t4 t9 t10 t11 t15 t16 : Value) (h : H) : sh X ze0 (zf4 X) (setL [p2, p3, p4, p9, p10, p11, p15, p16] [t2, t3, t4, t9, t10, t11, t15, t16]) h =
    k2 (some (t16, h)) fun t175 h1 =>
    k2 (vUn .not t175 h1) fun t176 h2 =>
    br t176
      (k2 (some ((.bool false), h2)) fun t6 h3 =>
    k2 (some ((.int .i64 0), h3)) fun t7 h4 =>
    some (.val (zg [t6, t7]) h4))
      (sh X c_a_11 (K_a_11 X) (setL [p2, p3, p4, p9, p10, p11, p15] [t2, t3, t4, t9, t10, t11, t15]) h2) := by kernel_rfl
theorem s_a_13 (X : Rn) (t2 t3 t4 t9 t10 t11 t15 t16 t17 : Value) (h : H) : sh X zgO (K_a_13 X) (setL [p2, p3, p4, p9, p10, p11, p15, p16, p17] [t2, t3, t4, t9, t10, t11, t15, t16, t17]) h =
    k2 (some (t17, h)) fun t141 h1 =>
    k2 (some (t10, h1)) fun t142 h2 =>
    k2 (bltV h2 .len [t142]) fun t143 h3 =>
    k2 (vBin .lss .other t141 t143 h3) fun t144 h4 =>
    br t144
      (k2 (some (t16, h4)) fun t147 h5 =>
    k2 (some (t147, h5)) fun t148 h6 =>
    k2 (gd t148 false h6 (some (t10, h6))) fun t149 h7 =>
    k2 (gd t148 false h7 (some (t17, h7))) fun t150 h8 =>
    k2 (gd t148 false h8 (zr 3 t149 t150 h8)) fun t151 h9 =>
    k2 (gd t148 false h9 (zd 2 t151 h9)) fun t152 h10 =>
    k2 (gd t148 false h10 (rdF (fun b => zc t152 b) 0 h10 [(0, h4)])) fun t153 h11 =>
    k2 (gd t148 false h11 (some (t11, h11))) fun t154 h12 =>
    k2 (gd t148 false h12 (some (t15, h12))) fun t155 h13 =>
    k2 (gd t148 false h13 (zr 3 t154 t155 h13)) fun t156 h14 =>
    k2 (gd t148 false h14 (zd 2 t156 h14)) fun t157 h15 =>
    k2 (gd t148 false h15 (rdF (fun b => zc t157 b) 0 h15 [(0, h4)])) fun t158 h16 =>
    k2 (gd t148 false h16 (vBin .eql .other t153 t158 h16)) fun t159 h17 =>
    k2 (gd t148 false h17 (some (t159, h17))) fun t160 h18 =>
    k2 (gd t160 true h18 (some (t2, h18))) fun t161 h19 =>
    k2 (gd t160 true h19 (some (t10, h19))) fun t162 h20 =>
    k2 (gd t160 true h20 (some (t17, h20))) fun t163 h21 =>
    k2 (gd t160 true h21 (zr 3 t162 t163 h21)) fun t164 h22 =>
    k2 (gd t160 true h22 (zd 1 t164 h22)) fun t165 h23 =>
    k2 (gd t160 true h23 (rdF (fun b => zc t165 b) 0 h23 [(0, h4)])) fun t166 h24 =>
    k2 (gd t160 true h24 (some (t11, h24))) fun t167 h25 =>
    k2 (gd t160 true h25 (some (t15, h25))) fun t168 h26 =>
    k2 (gd t160 true h26 (zr 3 t167 t168 h26)) fun t169 h27 =>
    k2 (gd t160 true h27 (zd 1 t169 h27)) fun t170 h28 =>
    k2 (gd t160 true h28 (rdF (fun b => zc t170 b) 0 h28 [(0, h4)])) fun t171 h29 =>
    k2 (gd t160 true h29 (X.call (.func (.func n_A) #[] #[]) [t161, t166, t171] h29)) fun t172 h30 =>
    k2 (gd t148 false h30 (zD t160 t172 (.bool false) h30)) fun t173 h31 =>
    k2 (zD t148 (.bool true) t173 h31) fun t174 h32 =>
    k2 (some (t174, h32)) fun t16_33 h34 =>
    k2 (some (t17, h34)) fun t145 h35 =>
    k2 (vBin .add .other t145 (.int .i64 1) h35) fun t146 h36 =>
    k2 (some (t146, h36)) fun t17_37 h38 =>
    lp X [p2, p3, p4, p9, p10, p11, p15, p16, p17] zgO (kBlk 10 (kSeq X ze0 [p2, p3, p4, p9, p10, p11, p15, p16] (zf4 X))) [t2, t3, t4, t9, t10, t11, t15, t16_33, t17_37] h38)
      (sh X ze0 (zf4 X) (setL [p2, p3, p4, p9, p10, p11, p15, p16] [t2, t3, t4, t9, t10, t11, t15, t16]) h4) := by kernel_rfl
theorem l_a_13 (F : FuncId → Option zp) (t2 t3 t4 t9 t10 t11 t15 t16 t17 : Value) (h : H) {r : Out} : let X := rI F; sh X zgO (K_a_13 X) (setL [p2, p3, p4, p9, p10, p11, p15, p16, p17] [t2, t3, t4, t9, t10, t11, t15, t16, t17]) h = some r → lp X [p2, p3, p4, p9, p10, p11, p15, p16, p17] zgO (kBlk 10 (kSeq X ze0 [p2, p3, p4, p9, p10, p11, p15, p16] (zf4 X))) [t2, t3, t4, t9, t10, t11, t15, t16, t17] h = some r := fun hv => zW (by decide) hv
theorem s_a_10 (X : Rn) (t2 t3 t4 t9 t10 t11 t15 : Value) (h : H) : sh X zgP (K_a_10 X) (setL [p2, p3, p4, p9, p10, p11, p15] [t2, t3, t4, t9, t10, t11, t15]) h =
    k2 (some (t15, h)) fun t135 h1 =>
    k2 (some (t11, h1)) fun t136 h2 =>
    k2 (bltV h2 .len [t136]) fun t137 h3 =>
    k2 (vBin .lss .other t135 t137 h3) fun t138 h4 =>
    br t138
      (k2 (some ((.bool false), h4)) fun t16 h5 =>
    k2 (some ((.int .i64 0), h5)) fun t17 h6 =>
    lp X [p2, p3, p4, p9, p10, p11, p15, p16, p17] zgO (kBlk 10 (kSeq X ze0 [p2, p3, p4, p9, p10, p11, p15, p16] (zf4 X))) [t2, t3, t4, t9, t10, t11, t15, t16, t17] h6)
      (sh X c_a_4 (K_a_4 X) (setL [p2, p3, p4, p9] [t2, t3, t4, t9]) h4) := by kernel_rfl
theorem l_a_10 (F : FuncId → Option zp) (t2 t3 t4 t9 t10 t11 t15 : Value) (h : H) {r : Out} : let X := rI F; sh X zgP (K_a_10 X) (setL [p2, p3, p4, p9, p10, p11, p15] [t2, t3, t4, t9, t10, t11, t15]) h = some r → lp X [p2, p3, p4, p9, p10, p11, p15] zgP (kBlk 8 (zhb X)) [t2, t3, t4, t9, t10, t11, t15] h = some r := fun hv => zW (by decide) hv
theorem s_a_5 (X : Rn) (t2 t3 t4 t9 t10 t11 : Value) (h : H) : sh X c_a_5 (zhb X) (setL [p2, p3, p4, p9, p10, p11] [t2, t3, t4, t9, t10, t11]) h =
    k2 (some ((.int .i64 0), h)) fun t15 h1 =>
    lp X [p2, p3, p4, p9, p10, p11, p15] zgP (kBlk 8 (zhb X)) [t2, t3, t4, t9, t10, t11, t15] h1 := by kernel_rfl
theorem s_a_7 (X : Rn) (t2 t3 t4 t9 t10 t11 t12 : Value) (h : H) : sh X c_a_7 (K_a_7 X) (setL [p2, p3, p4, p9, p10, p11, p12] [t2, t3, t4, t9, t10, t11, t12]) h =
    k2 (some (t12, h)) fun t97 h1 =>
    k2 (vBin .add .other t97 (.int .i64 1) h1) fun t98 h2 =>
    k2 (some (t98, h2)) fun t12_3 h4 =>
    lp X [p2, p3, p4, p9, p10, p11, p12] c_a_6 (kBlk 4 (kSeq X c_a_5 [p2, p3, p4, p9, p10, p11] (zhb X))) [t2, t3, t4, t9, t10, t11, t12_3] h4 := by kernel_rfl
theorem s_a_8 (X : Rn) (t2 t3 t4 t9 t10 t11 t12 t13 : Value) (h : H) : sh X ziV (K_a_8 X) (setL [p2, p3, p4, p9, p10, p11, p12, p13] [t2, t3, t4, t9, t10, t11, t12, t13]) h =
    k2 (some (t13, h)) fun t133 h1 =>
    k2 (vUn .not t133 h1) fun t134 h2 =>
    br t134
      (k2 (some ((.bool false), h2)) fun t6 h3 =>
    k2 (some ((.int .i64 0), h3)) fun t7 h4 =>
    some (.val (zg [t6, t7]) h4))
      (sh X c_a_7 (K_a_7 X) (setL [p2, p3, p4, p9, p10, p11, p12] [t2, t3, t4, t9, t10, t11, t12]) h2) := by kernel_rfl
theorem s_a_9 (X : Rn) (t2 t3 t4 t9 t10 t11 t12 t13 t14 : Value) (h : H) : sh X c_a_9 (K_a_9 X) (setL [p2, p3, p4, p9, p10, p11, p12, p13, p14] [t2, t3, t4, t9, t10, t11, t12, t13, t14]) h =
    k2 (some (t14, h)) fun t99 h1 =>
    k2 (some (t11, h1)) fun t100 h2 =>
    k2 (bltV h2 .len [t100]) fun t101 h3 =>
    k2 (vBin .lss .other t99 t101 h3) fun t102 h4 =>
    br t102
      (k2 (some (t13, h4)) fun t105 h5 =>
    k2 (some (t105, h5)) fun t106 h6 =>
    k2 (gd t106 false h6 (some (t10, h6))) fun t107 h7 =>
    k2 (gd t106 false h7 (some (t12, h7))) fun t108 h8 =>
    k2 (gd t106 false h8 (zr 3 t107 t108 h8)) fun t109 h9 =>
    k2 (gd t106 false h9 (zd 2 t109 h9)) fun t110 h10 =>
    k2 (gd t106 false h10 (rdF (fun b => zc t110 b) 0 h10 [(0, h4)])) fun t111 h11 =>
    k2 (gd t106 false h11 (some (t11, h11))) fun t112 h12 =>
    k2 (gd t106 false h12 (some (t14, h12))) fun t113 h13 =>
    k2 (gd t106 false h13 (zr 3 t112 t113 h13)) fun t114 h14 =>
    k2 (gd t106 false h14 (zd 2 t114 h14)) fun t115 h15 =>
    k2 (gd t106 false h15 (rdF (fun b => zc t115 b) 0 h15 [(0, h4)])) fun t116 h16 =>
    k2 (gd t106 false h16 (vBin .eql .other t111 t116 h16)) fun t117 h17 =>
    k2 (gd t106 false h17 (some (t117, h17))) fun t118 h18 =>
    k2 (gd t118 true h18 (some (t2, h18))) fun t119 h19 =>
    k2 (gd t118 true h19 (some (t10, h19))) fun t120 h20 =>
    k2 (gd t118 true h20 (some (t12, h20))) fun t121 h21 =>
    k2 (gd t118 true h21 (zr 3 t120 t121 h21)) fun t122 h22 =>
    k2 (gd t118 true h22 (zd 1 t122 h22)) fun t123 h23 =>
    k2 (gd t118 true h23 (rdF (fun b => zc t123 b) 0 h23 [(0, h4)])) fun t124 h24 =>
    k2 (gd t118 true h24 (some (t11, h24))) fun t125 h25 =>
    k2 (gd t118 true h25 (some (t14, h25))) fun t126 h26 =>
    k2 (gd t118 true h26 (zr 3 t125 t126 h26)) fun t127 h27 =>
    k2 (gd t118 true h27 (zd 1 t127 h27)) fun t128 h28 =>
    k2 (gd t118 true h28 (rdF (fun b => zc t128 b) 0 h28 [(0, h4)])) fun t129 h29 =>
    k2 (gd t118 true h29 (X.call (.func (.func n_A) #[] #[]) [t119, t124, t129] h29)) fun t130 h30 =>
    k2 (gd t106 false h30 (zD t118 t130 (.bool false) h30)) fun t131 h31 =>
    k2 (zD t106 (.bool true) t131 h31) fun t132 h32 =>
    k2 (some (t132, h32)) fun t13_33 h34 =>
    k2 (some (t14, h34)) fun t103 h35 =>
    k2 (vBin .add .other t103 (.int .i64 1) h35) fun t104 h36 =>
    k2 (some (t104, h36)) fun t14_37 h38 =>
    lp X [p2, p3, p4, p9, p10, p11, p12, p13, p14] c_a_9 (kBlk 6 (kSeq X ziV [p2, p3, p4, p9, p10, p11, p12, p13] (K_a_8 X))) [t2, t3, t4, t9, t10, t11, t12, t13_33, t14_37] h38)
      (sh X ziV (K_a_8 X) (setL [p2, p3, p4, p9, p10, p11, p12, p13] [t2, t3, t4, t9, t10, t11, t12, t13]) h4) := by kernel_rfl
theorem l_a_9 (F : FuncId → Option zp) (t2 t3 t4 t9 t10 t11 t12 t13 t14 : Value) (h : H) {r : Out} : let X := rI F; sh X c_a_9 (K_a_9 X) (setL [p2, p3, p4, p9, p10, p11, p12, p13, p14] [t2, t3, t4, t9, t10, t11, t12, t13, t14]) h = some r → lp X [p2, p3, p4, p9, p10, p11, p12, p13, p14] c_a_9 (kBlk 6 (kSeq X ziV [p2, p3, p4, p9, p10, p11, p12, p13] (K_a_8 X))) [t2, t3, t4, t9, t10, t11, t12, t13, t14] h = some r := fun hv => zW (by decide) hv
theorem s_a_6 (X : Rn) (t2 t3 t4 t9 t10 t11 t12 : Value) (h : H) : sh X c_a_6 (K_a_6 X) (setL [p2, p3, p4, p9, p10, p11, p12] [t2, t3, t4, t9, t10, t11, t12]) h =
    k2 (some (t12, h)) fun t93 h1 =>
    k2 (some (t10, h1)) fun t94 h2 =>
    k2 (bltV h2 .len [t94]) fun t95 h3 =>
    k2 (vBin .lss .other t93 t95 h3) fun t96 h4 =>
    br t96
      (k2 (some ((.bool false), h4)) fun t13 h5 =>
    k2 (some ((.int .i64 0), h5)) fun t14 h6 =>
    lp X [p2, p3, p4, p9, p10, p11, p12, p13, p14] c_a_9 (kBlk 6 (kSeq X ziV [p2, p3, p4, p9, p10, p11, p12, p13] (K_a_8 X))) [t2, t3, t4, t9, t10, t11, t12, t13, t14] h6)
      (sh X c_a_5 (zhb X) (setL [p2, p3, p4, p9, p10, p11] [t2, t3, t4, t9, t10, t11]) h4) := by kernel_rfl
theorem l_a_6 (F : FuncId → Option zp) (t2 t3 t4 t9 t10 t11 t12 : Value) (h : H) {r : Out} : let X := rI F; sh X c_a_6 (K_a_6 X) (setL [p2, p3, p4, p9, p10, p11, p12] [t2, t3, t4, t9, t10, t11, t12]) h = some r → lp X [p2, p3, p4, p9, p10, p11, p12] c_a_6 (kBlk 4 (kSeq X c_a_5 [p2, p3, p4, p9, p10, p11] (zhb X))) [t2, t3, t4, t9, t10, t11, t12] h = some r := fun hv => zW (by decide) hv
theorem s_a_3 (X : Rn) (t2 t3 t4 t9 : Value) (h : H) : sh X c_a_3 (K_a_3 X) (setL [p2, p3, p4, p9] [t2, t3, t4, t9]) h =
    k2 (some (t9, h)) fun t73 h1 =>
    k2 (some (t2, h1)) fun t74 h2 =>
    k2 (bltV h2 .len [t74]) fun t75 h3 =>
    k2 (vBin .lss .other t73 t75 h3) fun t76 h4 =>
    br t76
      (k2 (rdF (fun b => zj 3 t3 b) 0 h4 [(0, h4)]) fun t79 h5 =>
    k2 (some (t2, h5)) fun t80 h6 =>
    k2 (some (t9, h6)) fun t81 h7 =>
    k2 (zr 2 t80 t81 h7) fun t82 h8 =>
    k2 (zI 2 1 t82 (.int .i64 0) h8) fun t83 h9 =>
    k2 (rdF (fun b => zc t83 b) 0 h9 [(0, h4)]) fun t84 h10 =>
    k2 (X.call (.func (.func n_q) #[] #[]) [t79, t84] h10) fun t85 h11 =>
    k2 (rdF (fun b => zj 3 t4 b) 0 h11 [(1, h11), (0, h4)]) fun t86 h12 =>
    k2 (some (t2, h12)) fun t87 h13 =>
    k2 (some (t9, h13)) fun t88 h14 =>
    k2 (zr 2 t87 t88 h14) fun t89 h15 =>
    k2 (zI 2 1 t89 (.int .i64 1) h15) fun t90 h16 =>
    k2 (rdF (fun b => zc t90 b) 0 h16 [(1, h11), (0, h4)]) fun t91 h17 =>
    k2 (X.call (.func (.func n_q) #[] #[]) [t86, t91] h17) fun t92 h18 =>
    k2 (some (t85, h18)) fun t10 h19 =>
    k2 (some (t92, h19)) fun t11 h20 =>
    k2 (some ((.int .i64 0), h20)) fun t12 h21 =>
    lp X [p2, p3, p4, p9, p10, p11, p12] c_a_6 (kBlk 4 (kSeq X c_a_5 [p2, p3, p4, p9, p10, p11] (zhb X))) [t2, t3, t4, t9, t10, t11, t12] h21)
      (sh X c_a_2 (K_a_2 X) (setL [] []) h4) := by kernel_rfl
theorem l_a_3 (F : FuncId → Option zp) (t2 t3 t4 t9 : Value) (h : H) {r : Out} : let X := rI F; sh X c_a_3 (K_a_3 X) (setL [p2, p3, p4, p9] [t2, t3, t4, t9]) h = some r → lp X [p2, p3, p4, p9] c_a_3 (kBlk 2 (kSeq X c_a_2 [] (K_a_2 X))) [t2, t3, t4, t9] h = some r := fun hv => zW (by decide) hv
theorem s_a_0 (X : Rn) (t2 t3 t4 : Value) (h : H) : sh X c_a_0 (K_a_0 X) (setL [p2, p3, p4] [t2, t3, t4]) h =
    k2 (some ((.int .i64 0), h)) fun t9 h1 =>
    lp X [p2, p3, p4, p9] c_a_3 (kBlk 2 (kSeq X c_a_2 [] (K_a_2 X))) [t2, t3, t4, t9] h1 := by kernel_rfl
theorem s_a_1 (X : Rn) (t2 t3 t4 t8 : Value) (h : H) : sh X c_a_1 (K_a_1 X) (setL [p2, p3, p4, p8] [t2, t3, t4, t8]) h =
    k2 (some (t8, h)) fun t33 h1 =>
    k2 (some (t2, h1)) fun t34 h2 =>
    k2 (bltV h2 .len [t34]) fun t35 h3 =>
    k2 (vBin .lss .other t33 t35 h3) fun t36 h4 =>
    br t36
      (k2 (some (t2, h4)) fun t39 h5 =>
    k2 (some (t8, h5)) fun t40 h6 =>
    k2 (zr 2 t39 t40 h6) fun t41 h7 =>
    k2 (zI 2 1 t41 (.int .i64 0) h7) fun t42 h8 =>
    k2 (rdF (fun b => zc t42 b) 0 h8 [(0, h4)]) fun t43 h9 =>
    k2 (vBin .lss .other t43 (.int .i64 0) h9) fun t44 h10 =>
    k2 (some (t44, h10)) fun t45 h11 =>
    k2 (gd t45 false h11 (some (t2, h11))) fun t46 h12 =>
    k2 (gd t45 false h12 (some (t8, h12))) fun t47 h13 =>
    k2 (gd t45 false h13 (zr 2 t46 t47 h13)) fun t48 h14 =>
    k2 (gd t45 false h14 (zI 2 1 t48 (.int .i64 0) h14)) fun t49 h15 =>
    k2 (gd t45 false h15 (rdF (fun b => zc t49 b) 0 h15 [(0, h4)])) fun t50 h16 =>
    k2 (gd t45 false h16 (zd 0 t3 h16)) fun t51 h17 =>
    k2 (gd t45 false h17 (rdF (fun b => zc t51 b) 0 h17 [(0, h4)])) fun t52 h18 =>
    k2 (gd t45 false h18 (vBin .geq .other t50 t52 h18)) fun t53 h19 =>
    k2 (zD t45 (.bool true) t53 h19) fun t54 h20 =>
    k2 (some (t54, h20)) fun t55 h21 =>
    k2 (gd t55 false h21 (some (t2, h21))) fun t56 h22 =>
    k2 (gd t55 false h22 (some (t8, h22))) fun t57 h23 =>
    k2 (gd t55 false h23 (zr 2 t56 t57 h23)) fun t58 h24 =>
    k2 (gd t55 false h24 (zI 2 1 t58 (.int .i64 1) h24)) fun t59 h25 =>
    k2 (gd t55 false h25 (rdF (fun b => zc t59 b) 0 h25 [(0, h4)])) fun t60 h26 =>
    k2 (gd t55 false h26 (vBin .lss .other t60 (.int .i64 0) h26)) fun t61 h27 =>
    k2 (zD t55 (.bool true) t61 h27) fun t62 h28 =>
    k2 (some (t62, h28)) fun t63 h29 =>
    k2 (gd t63 false h29 (some (t2, h29))) fun t64 h30 =>
    k2 (gd t63 false h30 (some (t8, h30))) fun t65 h31 =>
    k2 (gd t63 false h31 (zr 2 t64 t65 h31)) fun t66 h32 =>
    k2 (gd t63 false h32 (zI 2 1 t66 (.int .i64 1) h32)) fun t67 h33 =>
    k2 (gd t63 false h33 (rdF (fun b => zc t67 b) 0 h33 [(0, h4)])) fun t68 h34 =>
    k2 (gd t63 false h34 (zd 0 t4 h34)) fun t69 h35 =>
    k2 (gd t63 false h35 (rdF (fun b => zc t69 b) 0 h35 [(0, h4)])) fun t70 h36 =>
    k2 (gd t63 false h36 (vBin .geq .other t68 t70 h36)) fun t71 h37 =>
    k2 (zD t63 (.bool true) t71 h37) fun t72 h38 =>
    br t72
      (k2 (some ((.bool false), h38)) fun t6 h39 =>
    k2 (some ((.int .i64 2), h39)) fun t7 h40 =>
    some (.val (zg [t6, t7]) h40))
      (k2 (some (t8, h38)) fun t37 h41 =>
    k2 (vBin .add .other t37 (.int .i64 1) h41) fun t38 h42 =>
    k2 (some (t38, h42)) fun t8_43 h44 =>
    lp X [p2, p3, p4, p8] c_a_1 (kBlk 0 (kSeq X c_a_0 [p2, p3, p4] (K_a_0 X))) [t2, t3, t4, t8_43] h44))
      (sh X c_a_0 (K_a_0 X) (setL [p2, p3, p4] [t2, t3, t4]) h4) := by kernel_rfl
theorem l_a_1 (F : FuncId → Option zp) (t2 t3 t4 t8 : Value) (h : H) {r : Out} : let X := rI F; sh X c_a_1 (K_a_1 X) (setL [p2, p3, p4, p8] [t2, t3, t4, t8]) h = some r → lp X [p2, p3, p4, p8] c_a_1 (kBlk 0 (kSeq X c_a_0 [p2, p3, p4] (K_a_0 X))) [t2, t3, t4, t8] h = some r := fun hv => zW (by decide) hv
theorem s_a (X : Rn) (t0 t1 t2 : Value) (h : H) : zl X 3 f_a [t0, t1, t2] h =
    k2 (some (zh h (zi t0))) fun t3 h1 =>
    k2 (some (zh h1 (zi t1))) fun t4 h2 =>
    k2 (some ((.bool false), h2)) fun t6 h3 =>
    k2 (some ((.int .i64 0), h3)) fun t7 h4 =>
    k2 (zj 3 t3 h4) fun t18 h5 =>
    k2 (X.call (.func (.func n_k) #[] #[]) [t18] h5) fun t19 h6 =>
    k2 (vBin .neq .other t19 (.int .i64 0) h6) fun t20 h7 =>
    k2 (some (t20, h7)) fun t21 h8 =>
    k2 (gd t21 false h8 (zj 3 t4 h8)) fun t22 h9 =>
    k2 (gd t21 false h9 (X.call (.func (.func n_k) #[] #[]) [t22] h9)) fun t23 h10 =>
    k2 (gd t21 false h10 (vBin .neq .other t23 (.int .i64 0) h10)) fun t24 h11 =>
    k2 (zD t21 (.bool true) t24 h11) fun t25 h12 =>
    k2 (some (t25, h12)) fun t26 h13 =>
    k2 (gd t26 false h13 (zd 1 t3 h13)) fun t27 h14 =>
    k2 (gd t26 false h14 (zc t27 h14)) fun t28 h15 =>
    k2 (gd t26 false h15 (zd 1 t4 h15)) fun t29 h16 =>
    k2 (gd t26 false h16 (zc t29 h16)) fun t30 h17 =>
    k2 (gd t26 false h17 (vBin .neq .other t28 t30 h17)) fun t31 h18 =>
    k2 (zD t26 (.bool true) t31 h18) fun t32 h19 =>
    br t32
      (k2 (some ((.bool false), h19)) fun t6 h20 =>
    k2 (some ((.int .i64 2), h20)) fun t7 h21 =>
    some (.val (zg [t6, t7]) h21))
      (k2 (some ((.int .i64 0), h19)) fun t8 h22 =>
    lp X [p2, p3, p4, p8] c_a_1 (kBlk 0 (kSeq X c_a_0 [p2, p3, p4] (K_a_0 X))) [t2, t3, t4, t8] h22) := by kernel_rfl
theorem s_J (X : Rn) (t0 t1 : Value) (h : H) : zl X 2 f_J [t0, t1] h =
    k2 (some (zh h (zi t0))) fun t2 h1 =>
    k2 (some (zh h1 (zi t1))) fun t3 h2 =>
    k2 (some ((.int .i64 0), h2)) fun t4 h3 =>
    k2 (zd 0 t2 h3) fun t5 h4 =>
    k2 (rdF (fun b => zc t5 b) 0 h4 [(0, h3)]) fun t6 h5 =>
    k2 (zd 0 t3 h5) fun t7 h6 =>
    k2 (rdF (fun b => zc t7 b) 0 h6 [(0, h3)]) fun t8 h7 =>
    k2 (X.call (.func (.func n_E) #[] #[]) [t6, t8] h7) fun t9 h8 =>
    k2 (zd 2 t2 h8) fun t10 h9 =>
    k2 (rdF (fun b => zc t10 b) 0 h9 [(1, h8), (0, h3)]) fun t11 h10 =>
    k2 (zd 2 t3 h10) fun t12 h11 =>
    k2 (rdF (fun b => zc t12 b) 0 h11 [(1, h8), (0, h3)]) fun t13 h12 =>
    k2 (X.call (.func (.func n_E) #[] #[]) [t11, t13] h12) fun t14 h13 =>
    k2 (zd 1 t2 h13) fun t15 h14 =>
    k2 (rdF (fun b => zc t15 b) 0 h14 [(2, h13), (1, h8), (0, h3)]) fun t16 h15 =>
    k2 (zd 1 t3 h15) fun t17 h16 =>
    k2 (rdF (fun b => zc t17 b) 0 h16 [(2, h13), (1, h8), (0, h3)]) fun t18 h17 =>
    k2 (X.call (.func (.func n_E) #[] #[]) [t16, t18] h17) fun t19 h18 =>
    k2 (zR 3 (zn (zo [(.int .i64 0)] 3) [(0 * 1, 1, t9), (1 * 1, 1, t14), (2 * 1, 1, t19)]) h18) fun t20 h19 =>
    k2 (X.call (.func (.func n_x) #[] #[]) [t20] h19) fun t21 h20 =>
    k2 (some (t21, h20)) fun t4 h21 =>
    some (.val (zg [t4]) h21) := by kernel_rfl
theorem s_O (X : Rn) (t0 t1 : Value) (h : H) : zl X 2 f_O [t0, t1] h =
    k2 (some (zh h (zi t0))) fun t2 h1 =>
    k2 (some (zh h1 (zi t1))) fun t3 h2 =>
    k2 (some ((.bool false), h2)) fun t4 h3 =>
    k2 (zd 0 t2 h3) fun t5 h4 =>
    k2 (zc t5 h4) fun t6 h5 =>
    k2 (zd 0 t3 h5) fun t7 h6 =>
    k2 (zc t7 h6) fun t8 h7 =>
    k2 (vBin .neq .other t6 t8 h7) fun t9 h8 =>
    br t9
      (k2 (zd 0 t2 h8) fun t10 h9 =>
    k2 (zc t10 h9) fun t11 h10 =>
    k2 (zd 0 t3 h10) fun t12 h11 =>
    k2 (zc t12 h11) fun t13 h12 =>
    k2 (vBin .lss .other t11 t13 h12) fun t14 h13 =>
    k2 (some (t14, h13)) fun t4 h14 =>
    some (.val (zg [t4]) h14))
      (k2 (zd 2 t2 h8) fun t15 h15 =>
    k2 (zc t15 h15) fun t16 h16 =>
    k2 (zd 2 t3 h16) fun t17 h17 =>
    k2 (zc t17 h17) fun t18 h18 =>
    k2 (vBin .neq .other t16 t18 h18) fun t19 h19 =>
    br t19
      (k2 (zd 2 t2 h19) fun t20 h20 =>
    k2 (zc t20 h20) fun t21 h21 =>
    k2 (zd 2 t3 h21) fun t22 h22 =>
    k2 (zc t22 h22) fun t23 h23 =>
    k2 (vBin .lss .other t21 t23 h23) fun t24 h24 =>
    k2 (some (t24, h24)) fun t4 h25 =>
    some (.val (zg [t4]) h25))
      (k2 (zd 1 t2 h19) fun t25 h26 =>
    k2 (zc t25 h26) fun t26 h27 =>
    k2 (zd 1 t3 h27) fun t27 h28 =>
    k2 (zc t27 h28) fun t28 h29 =>
    k2 (vBin .lss .other t26 t28 h29) fun t29 h30 =>
    k2 (some (t29, h30)) fun t4 h31 =>
    some (.val (zg [t4]) h31))) := by kernel_rfl
theorem s_h_0 (X : Rn) (t4 t5 : Value) (h : H) : sh X zg0 (K_h_0 X) (setL [p4, p5] [t4, t5]) h =
    k2 (zj 3 t5 h) fun t50 h1 =>
    k2 (zq 3 t4 t50 h1) fun _ h2 =>
    (vRes (some 3) t4 h2).bind fun r0 => some (.val (zg [r0]) h2) := by kernel_rfl
theorem s_h_1 (X : Rn) (t2 t3 t4 t5 t6 : Value) (h : H) : sh X zgZ (K_h_1 X) (setL [p2, p3, p4, p5, p6] [t2, t3, t4, t5, t6]) h =
    k2 (some (t6, h)) fun t20 h1 =>
    k2 (zd 2 t3 h1) fun t21 h2 =>
    k2 (zc t21 h2) fun t22 h3 =>
    k2 (bltV h3 .len [t22]) fun t23 h4 =>
    k2 (vBin .lss .other t20 t23 h4) fun t24 h5 =>
    br t24
      (k2 (zd 2 t3 h5) fun t27 h6 =>
    k2 (zc t27 h6) fun t28 h7 =>
    k2 (some (t6, h7)) fun t29 h8 =>
    k2 (zr 3 t28 t29 h8) fun t30 h9 =>
    k2 (zj 3 t30 h9) fun t31 h10 =>
    k2 (some (zh h10 [(.int .i64 0), (.int .i64 0), (.int .i64 0)])) fun t7 h11 =>
    k2 (zq 3 t7 t31 h11) fun _ h12 =>
    k2 (zd 2 t5 h12) fun t32 h13 =>
    k2 (zc t32 h13) fun t33 h14 =>
    k2 (zd 0 t7 h14) fun t34 h15 =>
    k2 (zc t34 h15) fun t35 h16 =>
    k2 (zd 0 t2 h16) fun t36 h17 =>
    k2 (zc t36 h17) fun t37 h18 =>
    k2 (vBin .add .other t35 t37 h18) fun t38 h19 =>
    k2 (zd 1 t7 h19) fun t39 h20 =>
    k2 (zc t39 h20) fun t40 h21 =>
    k2 (zd 0 t2 h21) fun t41 h22 =>
    k2 (zc t41 h22) fun t42 h23 =>
    k2 (vBin .add .other t40 t42 h23) fun t43 h24 =>
    k2 (zd 2 t7 h24) fun t44 h25 =>
    k2 (zc t44 h25) fun t45 h26 =>
    k2 ((zn [(.int .i64 0), (.int .i64 0), (.int .i64 0)] [(0, 1, t38), (1, 1, t43), (2, 1, t45)]).map fun c => (Value.agg ⟨c⟩, h26)) fun t46 h27 =>
    k2 (zR 1 (zn (zo [(.int .i64 0), (.int .i64 0), (.int .i64 0)] 1) [(0 * 3, 3, t46)]) h27) fun t47 h28 =>
    k2 (bltV h28 (.append 3 24) [t33, t47]) fun t48 h29 =>
    k2 (zd 2 t5 h29) fun t49 h30 =>
    k2 (zq 1 t49 t48 h30) fun _ h31 =>
    k2 (some (t6, h31)) fun t25 h32 =>
    k2 (vBin .add .other t25 (.int .i64 1) h32) fun t26 h33 =>
    k2 (some (t26, h33)) fun t6_34 h35 =>
    lp X [p2, p3, p4, p5, p6] zgZ (kBlk 0 (kSeq X zg0 [p4, p5] (K_h_0 X))) [t2, t3, t4, t5, t6_34] h35)
      (sh X zg0 (K_h_0 X) (setL [p4, p5] [t4, t5]) h5) := by kernel_rfl
theorem l_h_1 (F : FuncId → Option zp) (t2 t3 t4 t5 t6 : Value) (h : H) {r : Out} : let X := rI F; sh X zgZ (K_h_1 X) (setL [p2, p3, p4, p5, p6] [t2, t3, t4, t5, t6]) h = some r → lp X [p2, p3, p4, p5, p6] zgZ (kBlk 0 (kSeq X zg0 [p4, p5] (K_h_0 X))) [t2, t3, t4, t5, t6] h = some r := fun hv => zW (by decide) hv
theorem s_h (X : Rn) (t0 t1 : Value) (h : H) : zl X 2 f_h [t0, t1] h =
    k2 (some (zh h (zi t0))) fun t2 h1 =>
    k2 (some (zh h1 (zi t1))) fun t3 h2 =>
    k2 (some (zh h2 [(.int .i64 0), (.int .i64 0), (.slice none 0 0)])) fun t4 h3 =>
    k2 (zR 0 (zn (zo [(.int .i64 0), (.int .i64 0), (.int .i64 0)] 0) []) h3) fun t15 h4 =>
    k2 (zd 2 t2 h4) fun t16 h5 =>
    k2 (rdF (fun b => zc t16 b) 0 h5 [(0, h3)]) fun t17 h6 =>
    k2 (bltV h6 (.append 3 24) [t15, t17]) fun t18 h7 =>
    k2 (zd 0 t2 h7) fun t8 h8 =>
    k2 (rdF (fun b => zc t8 b) 0 h8 [(1, h7), (0, h3)]) fun t9 h9 =>
    k2 (zd 0 t3 h9) fun t10 h10 =>
    k2 (rdF (fun b => zc t10 b) 0 h10 [(1, h7), (0, h3)]) fun t11 h11 =>
    k2 (vBin .add .other t9 t11 h11) fun t12 h12 =>
    k2 (zd 1 t2 h12) fun t13 h13 =>
    k2 (rdF (fun b => zc t13 b) 0 h13 [(1, h7), (0, h3)]) fun t14 h14 =>
    k2 ((zn [(.int .i64 0), (.int .i64 0), (.slice none 0 0)] [(0, 1, t12), (1, 1, t14), (2, 1, t18)]).map fun c => (Value.agg ⟨c⟩, h14)) fun t19 h15 =>
    k2 (some (zh h15 [(.int .i64 0), (.int .i64 0), (.slice none 0 0)])) fun t5 h16 =>
    k2 (zq 3 t5 t19 h16) fun _ h17 =>
    k2 (some ((.int .i64 0), h17)) fun t6 h18 =>
    lp X [p2, p3, p4, p5, p6] zgZ (kBlk 0 (kSeq X zg0 [p4, p5] (K_h_0 X))) [t2, t3, t4, t5, t6] h18 := by kernel_rfl
theorem s_d_1 (X : Rn) (t1 t3 t4 : Value) (h : H) : sh X c_d_1 (K_d_1 X) (setL [p1, p3, p4] [t1, t3, t4]) h =
    k2 (some (t4, h)) fun t15 h1 =>
    k2 (vBin .add .other t15 (.int .i64 1) h1) fun t16 h2 =>
    k2 (some (t16, h2)) fun t4_3 h4 =>
    lp X [p1, p3, p4] zg5 (kBlk 0 (fnK [.tmp p2])) [t1, t3, t4_3] h4 := by kernel_rfl
theorem s_d_8 (X : Rn) (t1 t3 t4 t70 t71 t72 : Value) (h : H) : sh X zg1 (K_d_8 X) (setL [p1, p3, p4, p70, p71, p72] [t1, t3, t4, t70, t71, t72]) h =
    k2 (vBin .lss .other t72 t71 h) fun t73 h1 =>
    br t73
      (k2 (zr 2 t70 t72 h1) fun t74 h2 =>
    k2 (zj 2 t74 h2) fun t75 h3 =>
    k2 (some (zh h3 [(.int .i64 0), (.int .i64 0)])) fun t13 h4 =>
    k2 (zq 2 t13 t75 h4) fun _ h5 =>
    k2 (some (t3, h5)) fun t76 h6 =>
    k2 (rdF (fun b => zj 2 t13 b) 0 h6 [(0, h5)]) fun t77 h7 =>
    k2 (some (t4, h7)) fun t84 h8 =>
    k2 (zdN (.leaves [0, 1]) h8 t77 t84 t76) fun _ h9 =>
    k2 (some (t3, h9)) fun t78 h10 =>
    k2 (zI 2 1 t13 (.int .i64 1) h10) fun t79 h11 =>
    k2 (rdF (fun b => zc t79 b) 0 h11 [(1, h9), (0, h5)]) fun t80 h12 =>
    k2 (zI 2 1 t13 (.int .i64 0) h12) fun t81 h13 =>
    k2 (rdF (fun b => zc t81 b) 0 h13 [(1, h9), (0, h5)]) fun t82 h14 =>
    k2 ((zn [(.int .i64 0), (.int .i64 0)] [(0, 1, t80), (1, 1, t82)]).map fun c => (Value.agg ⟨c⟩, h14)) fun t83 h15 =>
    k2 (some (t4, h15)) fun t85 h16 =>
    k2 (zdN (.leaves [0, 1]) h16 t83 t85 t78) fun _ h17 =>
    k2 (vBin .add .other t72 (.int .i64 1) h17) fun t86 h18 =>
    k2 (some (t86, h18)) fun t72_19 h20 =>
    lp X [p1, p3, p4, p70, p71, p72] zg1 (kBlk 6 (ziB X)) [t1, t3, t4, t70, t71, t72_19] h20)
      (sh X c_d_1 (K_d_1 X) (setL [p1, p3, p4] [t1, t3, t4]) h1) := by kernel_rfl
theorem l_d_8 (F : FuncId → Option zp) (t1 t3 t4 t70 t71 t72 : Value) (h : H) {r : Out} : let X := rI F; sh X zg1 (K_d_8 X) (setL [p1, p3, p4, p70, p71, p72] [t1, t3, t4, t70, t71, t72]) h = some r → lp X [p1, p3, p4, p70, p71, p72] zg1 (kBlk 6 (ziB X)) [t1, t3, t4, t70, t71, t72] h = some r := fun hv => zW (by decide) hv
theorem s_d_2 (X : Rn) (t1 t3 t4 t5 : Value) (h : H) : sh X zgo (ziB X) (setL [p1, p3, p4, p5] [t1, t3, t4, t5]) h =
    k2 (some (t5, h)) fun t66 h1 =>
    k2 (bltV h1 .len [t66]) fun t67 h2 =>
    k2 (vBin .eql .other t67 (.int .i64 0) h2) fun t68 h3 =>
    br t68
      (k2 (some (t3, h3)) fun t69 h4 =>
    k2 (some (t69, h4)) fun t2 h5 =>
    some (.val (zg [t2]) h5))
      (k2 (some (t5, h3)) fun t70 h6 =>
    k2 (bltV h6 .len [t70]) fun t71 h7 =>
    k2 (some ((.int .i64 0), h7)) fun t72 h8 =>
    lp X [p1, p3, p4, p70, p71, p72] zg1 (kBlk 6 (ziB X)) [t1, t3, t4, t70, t71, t72] h8) := by kernel_rfl
theorem s_d_4 (X : Rn) (t1 t3 t4 t5 t18 t19 : Value) (h : H) : sh X zg3 (K_d_4 X) (setL [p1, p3, p4, p5, p18, p19] [t1, t3, t4, t5, t18, t19]) h =
    k2 (vBin .add .other t19 (.int .i64 1) h) fun t65 h1 =>
    k2 (some (t65, h1)) fun t19_2 h3 =>
    lp X [p1, p3, p4, p5, p18, p19] zg4 (kBlk 2 (kSeq X zgo [p1, p3, p4, p5] (ziB X))) [t1, t3, t4, t5, t18, t19_2] h3 := by kernel_rfl
theorem s_d_6 (X : Rn) (t1 t3 t4 t5 t6 t18 t19 t22 t23 : Value) (h : H) : sh X zib (K_d_6 X) (setL [p1, p3, p4, p5, p6, p18, p19, p22, p23] [t1, t3, t4, t5, t6, t18, t19, t22, t23]) h =
    k2 (vBin .add .other t23 (.int .i64 1) h) fun t64 h1 =>
    k2 (some (t64, h1)) fun t23_2 h3 =>
    lp X [p1, p3, p4, p5, p6, p18, p19, p22, p23] zg2 (kBlk 4 (kBlk 3 (kSeq X zg3 [p1, p3, p4, p5, p18, p19] (K_d_4 X)))) [t1, t3, t4, t5, t6, t18, t19, t22, t23_2] h3 := by kernel_rfl
theorem s_d_7 (X : Rn) (t1 t3 t4 t5 t6 t7 t11 t18 t19 t22 t23 : Value) (h : H) : sh X c_d_7 (K_d_7 X) (setL [p1, p3, p4, p5, p6, p7, p11, p18, p19, p22, p23] [t1, t3, t4, t5, t6, t7, t11, t18, t19, t22, t23]) h =
    k2 (some (t11, h)) fun t57 h1 =>
    br t57
      (k2 (some (t5, h1)) fun t58 h2 =>
    k2 (some (t6, h2)) fun t59 h3 =>
    k2 (some (t7, h3)) fun t60 h4 =>
    k2 ((zn [(.int .i64 0), (.int .i64 0)] [(0, 1, t59), (1, 1, t60)]).map fun c => (Value.agg ⟨c⟩, h4)) fun t61 h5 =>
    k2 (zR 1 (zn (zo [(.int .i64 0), (.int .i64 0)] 1) [(0 * 2, 2, t61)]) h5) fun t62 h6 =>
    k2 (bltV h6 (.append 2 16) [t58, t62]) fun t63 h7 =>
    k2 (some (t63, h7)) fun t5_8 h9 =>
    sh X zib (K_d_6 X) (setL [p1, p3, p4, p5, p6, p18, p19, p22, p23] [t1, t3, t4, t5_8, t6, t18, t19, t22, t23]) h9)
      (sh X zib (K_d_6 X) (setL [p1, p3, p4, p5, p6, p18, p19, p22, p23] [t1, t3, t4, t5, t6, t18, t19, t22, t23]) h1) := by kernel_rfl
theorem s_d_5 (X : Rn) (t1 t3 t4 t5 t6 t18 t19 t22 t23 : Value) (h : H) : sh X zg2 (K_d_5 X) (setL [p1, p3, p4, p5, p6, p18, p19, p22, p23] [t1, t3, t4, t5, t6, t18, t19, t22, t23]) h =
    k2 (vBin .lss .other t23 t22 h) fun t24 h1 =>
    br t24
      (k2 (some (t23, h1)) fun t25 h2 =>
    k2 (some (t25, h2)) fun t7 h3 =>
    k2 (some (t3, h3)) fun t27 h4 =>
    k2 (some (t6, h4)) fun t28 h5 =>
    k2 (some (t7, h5)) fun t29 h6 =>
    k2 ((zn [(.int .i64 0), (.int .i64 0)] [(0, 1, t28), (1, 1, t29)]).map fun c => (Value.agg ⟨c⟩, h6)) fun t30 h7 =>
    k2 (zbM (.leaves [0, 1]) (.int .i64 0) true t27 t30 h7) fun t31 h8 =>
    k2 (some (t31, h8)) fun t26 h9 =>
    k2 (zm 0 t26 h9) fun t32 h10 =>
    k2 (zm 1 t26 h10) fun t33 h11 =>
    k2 (some (t32, h11)) fun t8 h12 =>
    k2 (some (t33, h12)) fun t9 h13 =>
    k2 (some (t9, h13)) fun t34 h14 =>
    br t34
      (sh X zib (K_d_6 X) (setL [p1, p3, p4, p5, p6, p18, p19, p22, p23] [t1, t3, t4, t5, t6, t18, t19, t22, t23]) h14)
      (k2 (some (t3, h14)) fun t36 h15 =>
    k2 (zj 3 t1 h15) fun t37 h16 =>
    k2 (some (t6, h16)) fun t38 h17 =>
    k2 (some (t7, h17)) fun t39 h18 =>
    k2 (some (t4, h18)) fun t40 h19 =>
    k2 (vBin .sub .other t40 (.int .i64 1) h19) fun t41 h20 =>
    k2 (X.call (.func (.func n_f) #[] #[]) [t36, t37, t38, t39, t41] h20) fun t42 h21 =>
    k2 (some (t42, h21)) fun t35 h22 =>
    k2 (zm 0 t35 h22) fun t43 h23 =>
    k2 (zm 1 t35 h23) fun t44 h24 =>
    k2 (some (zh h24 [(.int .i64 0), (.int .i64 0), (.int .i64 0)])) fun t10 h25 =>
    k2 (zq 3 t10 t43 h25) fun _ h26 =>
    k2 (some (t44, h26)) fun t11 h27 =>
    k2 (some (t11, h27)) fun t45 h28 =>
    k2 (vUn .not t45 h28) fun t46 h29 =>
    br t46
      (k2 (some (t3, h29)) fun t48 h30 =>
    k2 (zj 3 t1 h30) fun t49 h31 =>
    k2 (some (t7, h31)) fun t50 h32 =>
    k2 (some (t6, h32)) fun t51 h33 =>
    k2 (some (t4, h33)) fun t52 h34 =>
    k2 (vBin .sub .other t52 (.int .i64 1) h34) fun t53 h35 =>
    k2 (X.call (.func (.func n_f) #[] #[]) [t48, t49, t50, t51, t53] h35) fun t54 h36 =>
    k2 (some (t54, h36)) fun t47 h37 =>
    k2 (zm 0 t47 h37) fun t55 h38 =>
    k2 (zm 1 t47 h38) fun t56 h39 =>
    k2 (some (t56, h39)) fun t11_40 h41 =>
    sh X c_d_7 (K_d_7 X) (setL [p1, p3, p4, p5, p6, p7, p11, p18, p19, p22, p23] [t1, t3, t4, t5, t6, t7, t11_40, t18, t19, t22, t23]) h41)
      (sh X c_d_7 (K_d_7 X) (setL [p1, p3, p4, p5, p6, p7, p11, p18, p19, p22, p23] [t1, t3, t4, t5, t6, t7, t11, t18, t19, t22, t23]) h29)))
      (sh X zg3 (K_d_4 X) (setL [p1, p3, p4, p5, p18, p19] [t1, t3, t4, t5, t18, t19]) h1) := by kernel_rfl
theorem l_d_5 (F : FuncId → Option zp) (t1 t3 t4 t5 t6 t18 t19 t22 t23 : Value) (h : H) {r : Out} : let X := rI F; sh X zg2 (K_d_5 X) (setL [p1, p3, p4, p5, p6, p18, p19, p22, p23] [t1, t3, t4, t5, t6, t18, t19, t22, t23]) h = some r → lp X [p1, p3, p4, p5, p6, p18, p19, p22, p23] zg2 (kBlk 4 (kBlk 3 (kSeq X zg3 [p1, p3, p4, p5, p18, p19] (K_d_4 X)))) [t1, t3, t4, t5, t6, t18, t19, t22, t23] h = some r := fun hv => zW (by decide) hv
theorem s_d_3 (X : Rn) (t1 t3 t4 t5 t18 t19 : Value) (h : H) : sh X zg4 (K_d_3 X) (setL [p1, p3, p4, p5, p18, p19] [t1, t3, t4, t5, t18, t19]) h =
    k2 (vBin .lss .other t19 t18 h) fun t20 h1 =>
    br t20
      (k2 (some (t19, h1)) fun t21 h2 =>
    k2 (some (t21, h2)) fun t6 h3 =>
    k2 (some (t6, h3)) fun t22 h4 =>
    k2 (some ((.int .i64 0), h4)) fun t23 h5 =>
    lp X [p1, p3, p4, p5, p6, p18, p19, p22, p23] zg2 (kBlk 4 (kBlk 3 (kSeq X zg3 [p1, p3, p4, p5, p18, p19] (K_d_4 X)))) [t1, t3, t4, t5, t6, t18, t19, t22, t23] h5)
      (sh X zgo (ziB X) (setL [p1, p3, p4, p5] [t1, t3, t4, t5]) h1) := by kernel_rfl
theorem l_d_3 (F : FuncId → Option zp) (t1 t3 t4 t5 t18 t19 : Value) (h : H) {r : Out} : let X := rI F; sh X zg4 (K_d_3 X) (setL [p1, p3, p4, p5, p18, p19] [t1, t3, t4, t5, t18, t19]) h = some r → lp X [p1, p3, p4, p5, p18, p19] zg4 (kBlk 2 (kSeq X zgo [p1, p3, p4, p5] (ziB X))) [t1, t3, t4, t5, t18, t19] h = some r := fun hv => zW (by decide) hv
theorem s_d_0 (X : Rn) (t1 t3 t4 : Value) (h : H) : sh X zg5 (K_d_0 X) (setL [p1, p3, p4] [t1, t3, t4]) h =
    k2 (some ((.slice none 0 0), h)) fun t5 h1 =>
    k2 (zd 0 t1 h1) fun t17 h2 =>
    k2 (zc t17 h2) fun t18 h3 =>
    k2 (some ((.int .i64 0), h3)) fun t19 h4 =>
    lp X [p1, p3, p4, p5, p18, p19] zg4 (kBlk 2 (kSeq X zgo [p1, p3, p4, p5] (ziB X))) [t1, t3, t4, t5, t18, t19] h4 := by kernel_rfl
theorem l_d_0 (F : FuncId → Option zp) (t1 t3 t4 : Value) (h : H) {r : Out} : let X := rI F; sh X zg5 (K_d_0 X) (setL [p1, p3, p4] [t1, t3, t4]) h = some r → lp X [p1, p3, p4] zg5 (kBlk 0 (fnK [.tmp p2])) [t1, t3, t4] h = some r := fun hv => zW (by decide) hv
theorem s_d (X : Rn) (t0 : Value) (h : H) : zl X 1 f_d [t0] h =
    k2 (some (zh h (zi t0))) fun t1 h1 =>
    k2 (some ((.map none), h1)) fun t2 h2 =>
    k2 (some (.map (some h2.next), h2.new (.map [] 0))) fun t14 h3 =>
    k2 (some (t14, h3)) fun t3 h4 =>
    k2 (some ((.int .i64 1), h4)) fun t4 h5 =>
    lp X [p1, p3, p4] zg5 (kBlk 0 (fnK [.tmp p2])) [t1, t3, t4] h5 := by kernel_rfl
theorem s_c_3 (X : Rn) (t1 t3 t4 t6 : Value) (h : H) : sh X c_c_3 (K_c_3 X) (setL [p1, p3, p4, p6] [t1, t3, t4, t6]) h =
    k2 (some (t6, h)) fun t29 h1 =>
    k2 (vBin .add .other t29 (.int .i64 1) h1) fun t30 h2 =>
    k2 (some (t30, h2)) fun t6_3 h4 =>
    lp X [p1, p3, p4, p6] c_c_2 (kBlk 2 (ziD X)) [t1, t3, t4, t6_3] h4 := by kernel_rfl
theorem s_c_9 (X : Rn) (t1 t3 t4 t6 t7 t10 : Value) (h : H) : sh X c_c_9 (K_c_9 X) (setL [p1, p3, p4, p6, p7, p10] [t1, t3, t4, t6, t7, t10]) h =
    k2 (some (t10, h)) fun t75 h1 =>
    k2 (some (t7, h1)) fun t76 h2 =>
    k2 (bltV h2 .len [t76]) fun t77 h3 =>
    k2 (vBin .lss .other t75 t77 h3) fun t78 h4 =>
    br t78
      (k2 (some (t4, h4)) fun t81 h5 =>
    k2 (some (t7, h5)) fun t82 h6 =>
    k2 (some (t10, h6)) fun t83 h7 =>
    k2 (zr 2 t82 t83 h7) fun t84 h8 =>
    k2 (zI 2 1 t84 (.int .i64 0) h8) fun t85 h9 =>
    k2 (rdF (fun b => zc t85 b) 0 h9 [(0, h4)]) fun t86 h10 =>
    k2 (zr 1 t81 t86 h10) fun t87 h11 =>
    k2 (rdF (fun b => zc t87 b) 0 h11 [(0, h4)]) fun t88 h12 =>
    k2 (some (t7, h12)) fun t89 h13 =>
    k2 (some (t10, h13)) fun t90 h14 =>
    k2 (zr 2 t89 t90 h14) fun t91 h15 =>
    k2 (zI 2 1 t91 (.int .i64 1) h15) fun t92 h16 =>
    k2 (rdF (fun b => zc t92 b) 0 h16 [(0, h4)]) fun t93 h17 =>
    k2 (some (t6, h17)) fun t94 h18 =>
    k2 (zr 1 t88 t93 h18) fun t95 h19 =>
    k2 (zq 1 t95 t94 h19) fun _ h20 =>
    k2 (some (t10, h20)) fun t79 h21 =>
    k2 (vBin .add .other t79 (.int .i64 1) h21) fun t80 h22 =>
    k2 (some (t80, h22)) fun t10_23 h24 =>
    lp X [p1, p3, p4, p6, p7, p10] c_c_9 (kBlk 8 (ziC X)) [t1, t3, t4, t6, t7, t10_23] h24)
      (sh X c_c_3 (K_c_3 X) (setL [p1, p3, p4, p6] [t1, t3, t4, t6]) h4) := by kernel_rfl
theorem l_c_9 (F : FuncId → Option zp) (t1 t3 t4 t6 t7 t10 : Value) (h : H) {r : Out} : let X := rI F; sh X c_c_9 (K_c_9 X) (setL [p1, p3, p4, p6, p7, p10] [t1, t3, t4, t6, t7, t10]) h = some r → lp X [p1, p3, p4, p6, p7, p10] c_c_9 (kBlk 8 (ziC X)) [t1, t3, t4, t6, t7, t10] h = some r := fun hv => zW (by decide) hv
theorem s_c_4 (X : Rn) (t1 t3 t4 t6 t7 : Value) (h : H) : sh X c_c_4 (ziC X) (setL [p1, p3, p4, p6, p7] [t1, t3, t4, t6, t7]) h =
    k2 (some (t7, h)) fun t71 h1 =>
    k2 (bltV h1 .len [t71]) fun t72 h2 =>
    k2 (vBin .eql .other t72 (.int .i64 0) h2) fun t73 h3 =>
    br t73
      (k2 (some (t4, h3)) fun t74 h4 =>
    k2 (some (t74, h4)) fun t2 h5 =>
    some (.val (zg [t2]) h5))
      (k2 (some ((.int .i64 0), h3)) fun t10 h6 =>
    lp X [p1, p3, p4, p6, p7, p10] c_c_9 (kBlk 8 (ziC X)) [t1, t3, t4, t6, t7, t10] h6) := by kernel_rfl
theorem s_c_6 (X : Rn) (t1 t3 t4 t6 t7 t8 : Value) (h : H) : sh X c_c_6 (K_c_6 X) (setL [p1, p3, p4, p6, p7, p8] [t1, t3, t4, t6, t7, t8]) h =
    k2 (some (t8, h)) fun t35 h1 =>
    k2 (vBin .add .other t35 (.int .i64 1) h1) fun t36 h2 =>
    k2 (some (t36, h2)) fun t8_3 h4 =>
    lp X [p1, p3, p4, p6, p7, p8] c_c_5 (kBlk 4 (kSeq X c_c_4 [p1, p3, p4, p6, p7] (ziC X))) [t1, t3, t4, t6, t7, t8_3] h4 := by kernel_rfl
theorem s_c_8 (X : Rn) (t1 t3 t4 t6 t7 t8 t9 : Value) (h : H) : sh X c_c_8 (K_c_8 X) (setL [p1, p3, p4, p6, p7, p8, p9] [t1, t3, t4, t6, t7, t8, t9]) h =
    k2 (some (t9, h)) fun t41 h1 =>
    k2 (vBin .add .other t41 (.int .i64 1) h1) fun t42 h2 =>
    k2 (some (t42, h2)) fun t9_3 h4 =>
    lp X [p1, p3, p4, p6, p7, p8, p9] c_c_7 (kBlk 6 (kBlk 5 (kSeq X c_c_6 [p1, p3, p4, p6, p7, p8] (K_c_6 X)))) [t1, t3, t4, t6, t7, t8, t9_3] h4 := by kernel_rfl
theorem s_c_7 (X : Rn) (t1 t3 t4 t6 t7 t8 t9 : Value) (h : H) : sh X c_c_7 (K_c_7 X) (setL [p1, p3, p4, p6, p7, p8, p9] [t1, t3, t4, t6, t7, t8, t9]) h =
    k2 (some (t9, h)) fun t37 h1 =>
    k2 (zd 0 t1 h1) fun t38 h2 =>
    k2 (zc t38 h2) fun t39 h3 =>
    k2 (vBin .lss .other t37 t39 h3) fun t40 h4 =>
    br t40
      (k2 (some (t4, h4)) fun t43 h5 =>
    k2 (some (t8, h5)) fun t44 h6 =>
    k2 (zr 1 t43 t44 h6) fun t45 h7 =>
    k2 (zc t45 h7) fun t46 h8 =>
    k2 (some (t9, h8)) fun t47 h9 =>
    k2 (zr 1 t46 t47 h9) fun t48 h10 =>
    k2 (zc t48 h10) fun t49 h11 =>
    k2 (vBin .eql .other t49 (.int .i64 0) h11) fun t50 h12 =>
    k2 (some (t50, h12)) fun t51 h13 =>
    k2 (gd t51 true h13 (some (t3, h13))) fun t52 h14 =>
    k2 (gd t51 true h14 (some (t4, h14))) fun t53 h15 =>
    k2 (gd t51 true h15 (some (t8, h15))) fun t54 h16 =>
    k2 (gd t51 true h16 (some (t9, h16))) fun t55 h17 =>
    k2 (gd t51 true h17 (X.call (.func (.func n_z) #[] #[]) [t52, t53, t54, t55] h17)) fun t56 h18 =>
    k2 (gd t51 true h18 (some (t56, h18))) fun t57 h19 =>
    k2 (gd t57 false h19 (some (t3, h19))) fun t58 h20 =>
    k2 (gd t57 false h20 (some (t4, h20))) fun t59 h21 =>
    k2 (gd t57 false h21 (some (t9, h21))) fun t60 h22 =>
    k2 (gd t57 false h22 (some (t8, h22))) fun t61 h23 =>
    k2 (gd t57 false h23 (X.call (.func (.func n_z) #[] #[]) [t58, t59, t60, t61] h23)) fun t62 h24 =>
    k2 (gd t51 true h24 (zD t57 (.bool true) t62 h24)) fun t63 h25 =>
    k2 (zD t51 t63 (.bool false) h25) fun t64 h26 =>
    br t64
      (k2 (some (t7, h26)) fun t65 h27 =>
    k2 (some (t8, h27)) fun t66 h28 =>
    k2 (some (t9, h28)) fun t67 h29 =>
    k2 ((zn [(.int .i64 0), (.int .i64 0)] [(0, 1, t66), (1, 1, t67)]).map fun c => (Value.agg ⟨c⟩, h29)) fun t68 h30 =>
    k2 (zR 1 (zn (zo [(.int .i64 0), (.int .i64 0)] 1) [(0 * 2, 2, t68)]) h30) fun t69 h31 =>
    k2 (bltV h31 (.append 2 16) [t65, t69]) fun t70 h32 =>
    k2 (some (t70, h32)) fun t7_33 h34 =>
    sh X c_c_8 (K_c_8 X) (setL [p1, p3, p4, p6, p7, p8, p9] [t1, t3, t4, t6, t7_33, t8, t9]) h34)
      (sh X c_c_8 (K_c_8 X) (setL [p1, p3, p4, p6, p7, p8, p9] [t1, t3, t4, t6, t7, t8, t9]) h26))
      (sh X c_c_6 (K_c_6 X) (setL [p1, p3, p4, p6, p7, p8] [t1, t3, t4, t6, t7, t8]) h4) := by kernel_rfl
theorem l_c_7 (F : FuncId → Option zp) (t1 t3 t4 t6 t7 t8 t9 : Value) (h : H) {r : Out} : let X := rI F; sh X c_c_7 (K_c_7 X) (setL [p1, p3, p4, p6, p7, p8, p9] [t1, t3, t4, t6, t7, t8, t9]) h = some r → lp X [p1, p3, p4, p6, p7, p8, p9] c_c_7 (kBlk 6 (kBlk 5 (kSeq X c_c_6 [p1, p3, p4, p6, p7, p8] (K_c_6 X)))) [t1, t3, t4, t6, t7, t8, t9] h = some r := fun hv => zW (by decide) hv
theorem s_c_5 (X : Rn) (t1 t3 t4 t6 t7 t8 : Value) (h : H) : sh X c_c_5 (K_c_5 X) (setL [p1, p3, p4, p6, p7, p8] [t1, t3, t4, t6, t7, t8]) h =
    k2 (some (t8, h)) fun t31 h1 =>
    k2 (zd 0 t1 h1) fun t32 h2 =>
    k2 (zc t32 h2) fun t33 h3 =>
    k2 (vBin .lss .other t31 t33 h3) fun t34 h4 =>
    br t34
      (k2 (some ((.int .i64 0), h4)) fun t9 h5 =>
    lp X [p1, p3, p4, p6, p7, p8, p9] c_c_7 (kBlk 6 (kBlk 5 (kSeq X c_c_6 [p1, p3, p4, p6, p7, p8] (K_c_6 X)))) [t1, t3, t4, t6, t7, t8, t9] h5)
      (sh X c_c_4 (ziC X) (setL [p1, p3, p4, p6, p7] [t1, t3, t4, t6, t7]) h4) := by kernel_rfl
theorem l_c_5 (F : FuncId → Option zp) (t1 t3 t4 t6 t7 t8 : Value) (h : H) {r : Out} : let X := rI F; sh X c_c_5 (K_c_5 X) (setL [p1, p3, p4, p6, p7, p8] [t1, t3, t4, t6, t7, t8]) h = some r → lp X [p1, p3, p4, p6, p7, p8] c_c_5 (kBlk 4 (kSeq X c_c_4 [p1, p3, p4, p6, p7] (ziC X))) [t1, t3, t4, t6, t7, t8] h = some r := fun hv => zW (by decide) hv
theorem s_c_2 (X : Rn) (t1 t3 t4 t6 : Value) (h : H) : sh X c_c_2 (K_c_2 X) (setL [p1, p3, p4, p6] [t1, t3, t4, t6]) h =
    k2 (some ((.slice none 0 0), h)) fun t7 h1 =>
    k2 (some ((.int .i64 0), h1)) fun t8 h2 =>
    lp X [p1, p3, p4, p6, p7, p8] c_c_5 (kBlk 4 (kSeq X c_c_4 [p1, p3, p4, p6, p7] (ziC X))) [t1, t3, t4, t6, t7, t8] h2 := by kernel_rfl
theorem l_c_2 (F : FuncId → Option zp) (t1 t3 t4 t6 : Value) (h : H) {r : Out} : let X := rI F; sh X c_c_2 (K_c_2 X) (setL [p1, p3, p4, p6] [t1, t3, t4, t6]) h = some r → lp X [p1, p3, p4, p6] c_c_2 (kBlk 2 (ziD X)) [t1, t3, t4, t6] h = some r := fun hv => zW (by decide) hv
theorem s_c_0 (X : Rn) (t1 t3 t4 : Value) (h : H) : sh X c_c_0 (ziD X) (setL [p1, p3, p4] [t1, t3, t4]) h =
    k2 (some ((.int .i64 1), h)) fun t6 h1 =>
    lp X [p1, p3, p4, p6] c_c_2 (kBlk 2 (ziD X)) [t1, t3, t4, t6] h1 := by kernel_rfl
theorem s_c_1 (X : Rn) (t1 t3 t4 t5 : Value) (h : H) : sh X c_c_1 (K_c_1 X) (setL [p1, p3, p4, p5] [t1, t3, t4, t5]) h =
    k2 (some (t5, h)) fun t11 h1 =>
    k2 (zd 0 t1 h1) fun t12 h2 =>
    k2 (zc t12 h2) fun t13 h3 =>
    k2 (vBin .lss .other t11 t13 h3) fun t14 h4 =>
    br t14
      (k2 (some (t3, h4)) fun t17 h5 =>
    k2 (zj 3 t1 h5) fun t18 h6 =>
    k2 (some (t5, h6)) fun t19 h7 =>
    k2 (X.call (.func (.func n_q) #[] #[]) [t18, t19] h7) fun t20 h8 =>
    k2 (zR 1 (zn (zo [(.slice none 0 0)] 1) [(0 * 1, 1, t20)]) h8) fun t21 h9 =>
    k2 (bltV h9 (.append 1 24) [t17, t21]) fun t22 h10 =>
    k2 (some (t22, h10)) fun t3_11 h12 =>
    k2 (some (t4, h12)) fun t23 h13 =>
    k2 (zd 0 t1 h13) fun t24 h14 =>
    k2 (zc t24 h14) fun t25 h15 =>
    k2 (zbu 8 [(.int .i64 0)] h15 t25 t25) fun t26 h16 =>
    k2 (zR 1 (zn (zo [(.slice none 0 0)] 1) [(0 * 1, 1, t26)]) h16) fun t27 h17 =>
    k2 (bltV h17 (.append 1 24) [t23, t27]) fun t28 h18 =>
    k2 (some (t28, h18)) fun t4_19 h20 =>
    k2 (some (t5, h20)) fun t15 h21 =>
    k2 (vBin .add .other t15 (.int .i64 1) h21) fun t16 h22 =>
    k2 (some (t16, h22)) fun t5_23 h24 =>
    lp X [p1, p3, p4, p5] c_c_1 (kBlk 0 (kSeq X c_c_0 [p1, p3, p4] (ziD X))) [t1, t3_11, t4_19, t5_23] h24)
      (sh X c_c_0 (ziD X) (setL [p1, p3, p4] [t1, t3, t4]) h4) := by kernel_rfl
theorem l_c_1 (F : FuncId → Option zp) (t1 t3 t4 t5 : Value) (h : H) {r : Out} : let X := rI F; sh X c_c_1 (K_c_1 X) (setL [p1, p3, p4, p5] [t1, t3, t4, t5]) h = some r → lp X [p1, p3, p4, p5] c_c_1 (kBlk 0 (kSeq X c_c_0 [p1, p3, p4] (ziD X))) [t1, t3, t4, t5] h = some r := fun hv => zW (by decide) hv
theorem s_c (X : Rn) (t0 : Value) (h : H) : zl X 1 f_c [t0] h =
    k2 (some (zh h (zi t0))) fun t1 h1 =>
    k2 (some ((.slice none 0 0), h1)) fun t2 h2 =>
    k2 (some ((.slice none 0 0), h2)) fun t3 h3 =>
    k2 (some ((.slice none 0 0), h3)) fun t4 h4 =>
    k2 (some ((.int .i64 0), h4)) fun t5 h5 =>
    lp X [p1, p3, p4, p5] c_c_1 (kBlk 0 (kSeq X c_c_0 [p1, p3, p4] (ziD X))) [t1, t3, t4, t5] h5 := by kernel_rfl
theorem s_q_0 (X : Rn) (t5 : Value) (h : H) : sh X c_q_0 (K_q_0 X) (setL [p5] [t5]) h =
    k2 (some (t5, h)) fun t30 h1 =>
    k2 (some (t30, h1)) fun t4 h2 =>
    some (.val (zg [t4]) h2) := by kernel_rfl
theorem s_q_2 (X : Rn) (t1 t2 t5 t6 : Value) (h : H) : sh X c_q_2 (K_q_2 X) (setL [p1, p2, p5, p6] [t1, t2, t5, t6]) h =
    k2 (some (t6, h)) fun t12 h1 =>
    k2 (vBin .add .other t12 (.int .i64 1) h1) fun t13 h2 =>
    k2 (some (t13, h2)) fun t6_3 h4 =>
    lp X [p1, p2, p5, p6] c_q_1 (kBlk 0 (kSeq X c_q_0 [p5] (K_q_0 X))) [t1, t2, t5, t6_3] h4 := by kernel_rfl
theorem s_q_1 (X : Rn) (t1 t2 t5 t6 : Value) (h : H) : sh X c_q_1 (K_q_1 X) (setL [p1, p2, p5, p6] [t1, t2, t5, t6]) h =
    k2 (some (t6, h)) fun t7 h1 =>
    k2 (zd 2 t2 h1) fun t8 h2 =>
    k2 (zc t8 h2) fun t9 h3 =>
    k2 (bltV h3 .len [t9]) fun t10 h4 =>
    k2 (vBin .lss .other t7 t10 h4) fun t11 h5 =>
    br t11
      (k2 (zd 2 t2 h5) fun t14 h6 =>
    k2 (zc t14 h6) fun t15 h7 =>
    k2 (some (t6, h7)) fun t16 h8 =>
    k2 (zr 3 t15 t16 h8) fun t17 h9 =>
    k2 (zd 0 t17 h9) fun t18 h10 =>
    k2 (zc t18 h10) fun t19 h11 =>
    k2 (some (t1, h11)) fun t20 h12 =>
    k2 (vBin .eql .other t19 t20 h12) fun t21 h13 =>
    br t21
      (k2 (some (t5, h13)) fun t22 h14 =>
    k2 (zd 2 t2 h14) fun t23 h15 =>
    k2 (zc t23 h15) fun t24 h16 =>
    k2 (some (t6, h16)) fun t25 h17 =>
    k2 (zr 3 t24 t25 h17) fun t26 h18 =>
    k2 (zj 3 t26 h18) fun t27 h19 =>
    k2 (zR 1 (zn (zo [(.int .i64 0), (.int .i64 0), (.int .i64 0)] 1) [(0 * 3, 3, t27)]) h19) fun t28 h20 =>
    k2 (bltV h20 (.append 3 24) [t22, t28]) fun t29 h21 =>
    k2 (some (t29, h21)) fun t5_22 h23 =>
    sh X c_q_2 (K_q_2 X) (setL [p1, p2, p5, p6] [t1, t2, t5_22, t6]) h23)
      (sh X c_q_2 (K_q_2 X) (setL [p1, p2, p5, p6] [t1, t2, t5, t6]) h13))
      (sh X c_q_0 (K_q_0 X) (setL [p5] [t5]) h5) := by kernel_rfl
theorem l_q_1 (F : FuncId → Option zp) (t1 t2 t5 t6 : Value) (h : H) {r : Out} : let X := rI F; sh X c_q_1 (K_q_1 X) (setL [p1, p2, p5, p6] [t1, t2, t5, t6]) h = some r → lp X [p1, p2, p5, p6] c_q_1 (kBlk 0 (kSeq X c_q_0 [p5] (K_q_0 X))) [t1, t2, t5, t6] h = some r := fun hv => zW (by decide) hv
theorem s_q (X : Rn) (t0 t1 : Value) (h : H) : zl X 2 f_q [t0, t1] h =
    k2 (some (zh h (zi t0))) fun t2 h1 =>
    k2 (some ((.slice none 0 0), h1)) fun t4 h2 =>
    k2 (some ((.slice none 0 0), h2)) fun t5 h3 =>
    k2 (some ((.int .i64 0), h3)) fun t6 h4 =>
    lp X [p1, p2, p5, p6] c_q_1 (kBlk 0 (kSeq X c_q_0 [p5] (K_q_0 X))) [t1, t2, t5, t6] h4 := by kernel_rfl
theorem s_N (X : Rn) (t0 t1 : Value) (h : H) : zl X 2 f_N [t0, t1] h =
    k2 (some (zh h (zi t0))) fun t2 h1 =>
    k2 (some (zh h1 (zi t1))) fun t3 h2 =>
    k2 (some ((.bool false), h2)) fun t4 h3 =>
    k2 (zj 3 t2 h3) fun t5 h4 =>
    k2 (X.call (.func (.func n_o) #[] #[]) [t5] h4) fun t6 h5 =>
    k2 (vBin .eql .other t6 (.int .i64 0) h5) fun t7 h6 =>
    k2 (some (t7, h6)) fun t8 h7 =>
    k2 (gd t8 true h7 (zj 3 t3 h7)) fun t9 h8 =>
    k2 (gd t8 true h8 (X.call (.func (.func n_o) #[] #[]) [t9] h8)) fun t10 h9 =>
    k2 (gd t8 true h9 (vBin .eql .other t10 (.int .i64 0) h9)) fun t11 h10 =>
    k2 (zD t8 t11 (.bool false) h10) fun t12 h11 =>
    k2 (some (t12, h11)) fun t13 h12 =>
    k2 (gd t13 true h12 (zd 1 t2 h12)) fun t14 h13 =>
    k2 (gd t13 true h13 (zc t14 h13)) fun t15 h14 =>
    k2 (gd t13 true h14 (zd 1 t3 h14)) fun t16 h15 =>
    k2 (gd t13 true h15 (zc t16 h15)) fun t17 h16 =>
    k2 (gd t13 true h16 (vBin .eql .other t15 t17 h16)) fun t18 h17 =>
    k2 (zD t13 t18 (.bool false) h17) fun t19 h18 =>
    k2 (some (t19, h18)) fun t4 h19 =>
    some (.val (zg [t4]) h19) := by kernel_rfl
theorem s_y_0 (X : Rn) (t2 t5 : Value) (h : H) : sh X zgY (K_y_0 X) (setL [p2, p5] [t2, t5]) h =
    k2 (rdF (fun b => zj 3 t5 b) 0 h [(0, h)]) fun t48 h1 =>
    k2 (X.call (.func (.func n_d) #[] #[]) [t48] h1) fun t49 h2 =>
    k2 (zd 0 t2 h2) fun t50 h3 =>
    k2 (rdF (fun b => zc t50 b) 0 h3 [(1, h2), (0, h)]) fun t51 h4 =>
    k2 ((zn [(.int .i64 0), (.int .i64 0)] [(0, 1, (.int .i64 0)), (1, 1, t51)]).map fun c => (Value.agg ⟨c⟩, h4)) fun t52 h5 =>
    k2 (rdF (fun b => zbM (.leaves [0, 1]) (.int .i64 0) true t49 t52 b) 1 h5 [(1, h2), (0, h)]) fun t53 h6 =>
    k2 (some (t53, h6)) fun t47 h7 =>
    k2 (zm 0 t47 h7) fun t54 h8 =>
    k2 (zm 1 t47 h8) fun t55 h9 =>
    k2 (some (t54, h9)) fun t8 h10 =>
    k2 (some (t55, h10)) fun t9 h11 =>
    k2 (some (t9, h11)) fun t56 h12 =>
    k2 (vUn .not t56 h12) fun t57 h13 =>
    k2 (some (t57, h13)) fun t4 h14 =>
    some (.val (zg [t4]) h14) := by kernel_rfl
theorem s_y_1 (X : Rn) (t2 t5 t22 t23 t24 : Value) (h : H) : sh X zgX (K_y_1 X) (setL [p2, p5, p22, p23, p24] [t2, t5, t22, t23, t24]) h =
    k2 (vBin .lss .other t24 t23 h) fun t25 h1 =>
    br t25
      (k2 (zr 3 t22 t24 h1) fun t26 h2 =>
    k2 (zj 3 t26 h2) fun t27 h3 =>
    k2 (some (zh h3 [(.int .i64 0), (.int .i64 0), (.int .i64 0)])) fun t7 h4 =>
    k2 (zq 3 t7 t27 h4) fun _ h5 =>
    k2 (zd 2 t5 h5) fun t28 h6 =>
    k2 (zc t28 h6) fun t29 h7 =>
    k2 (zd 0 t7 h7) fun t30 h8 =>
    k2 (zc t30 h8) fun t31 h9 =>
    k2 (zd 0 t2 h9) fun t32 h10 =>
    k2 (zc t32 h10) fun t33 h11 =>
    k2 (vBin .add .other t31 t33 h11) fun t34 h12 =>
    k2 (zd 1 t7 h12) fun t35 h13 =>
    k2 (zc t35 h13) fun t36 h14 =>
    k2 (zd 0 t2 h14) fun t37 h15 =>
    k2 (zc t37 h15) fun t38 h16 =>
    k2 (vBin .add .other t36 t38 h16) fun t39 h17 =>
    k2 (zd 2 t7 h17) fun t40 h18 =>
    k2 (zc t40 h18) fun t41 h19 =>
    k2 ((zn [(.int .i64 0), (.int .i64 0), (.int .i64 0)] [(0, 1, t34), (1, 1, t39), (2, 1, t41)]).map fun c => (Value.agg ⟨c⟩, h19)) fun t42 h20 =>
    k2 (zR 1 (zn (zo [(.int .i64 0), (.int .i64 0), (.int .i64 0)] 1) [(0 * 3, 3, t42)]) h20) fun t43 h21 =>
    k2 (bltV h21 (.append 3 24) [t29, t43]) fun t44 h22 =>
    k2 (zd 2 t5 h22) fun t45 h23 =>
    k2 (zq 1 t45 t44 h23) fun _ h24 =>
    k2 (vBin .add .other t24 (.int .i64 1) h24) fun t46 h25 =>
    k2 (some (t46, h25)) fun t24_26 h27 =>
    lp X [p2, p5, p22, p23, p24] zgX (kBlk 0 (kSeq X zgY [p2, p5] (K_y_0 X))) [t2, t5, t22, t23, t24_26] h27)
      (sh X zgY (K_y_0 X) (setL [p2, p5] [t2, t5]) h1) := by kernel_rfl
theorem l_y_1 (F : FuncId → Option zp) (t2 t5 t22 t23 t24 : Value) (h : H) {r : Out} : let X := rI F; sh X zgX (K_y_1 X) (setL [p2, p5, p22, p23, p24] [t2, t5, t22, t23, t24]) h = some r → lp X [p2, p5, p22, p23, p24] zgX (kBlk 0 (kSeq X zgY [p2, p5] (K_y_0 X))) [t2, t5, t22, t23, t24] h = some r := fun hv => zW (by decide) hv
theorem s_y (X : Rn) (t0 t1 : Value) (h : H) : zl X 2 f_y [t0, t1] h =
    k2 (some (zh h (zi t0))) fun t2 h1 =>
    k2 (some (zh h1 (zi t1))) fun t3 h2 =>
    k2 (some ((.bool false), h2)) fun t4 h3 =>
    k2 (zd 2 t2 h3) fun t17 h4 =>
    k2 (rdF (fun b => zc t17 b) 0 h4 [(0, h3)]) fun t18 h5 =>
    k2 (X.call (.func (.func n_l) #[] #[]) [t18] h5) fun t19 h6 =>
    k2 (zd 0 t2 h6) fun t10 h7 =>
    k2 (rdF (fun b => zc t10 b) 0 h7 [(1, h6), (0, h3)]) fun t11 h8 =>
    k2 (zd 0 t3 h8) fun t12 h9 =>
    k2 (rdF (fun b => zc t12 b) 0 h9 [(1, h6), (0, h3)]) fun t13 h10 =>
    k2 (vBin .add .other t11 t13 h10) fun t14 h11 =>
    k2 (zd 1 t2 h11) fun t15 h12 =>
    k2 (rdF (fun b => zc t15 b) 0 h12 [(1, h6), (0, h3)]) fun t16 h13 =>
    k2 ((zn [(.int .i64 0), (.int .i64 0), (.slice none 0 0)] [(0, 1, t14), (1, 1, t16), (2, 1, t19)]).map fun c => (Value.agg ⟨c⟩, h13)) fun t20 h14 =>
    k2 (some (zh h14 [(.int .i64 0), (.int .i64 0), (.slice none 0 0)])) fun t5 h15 =>
    k2 (zq 3 t5 t20 h15) fun _ h16 =>
    k2 (zd 2 t3 h16) fun t21 h17 =>
    k2 (zc t21 h17) fun t22 h18 =>
    k2 (bltV h18 .len [t22]) fun t23 h19 =>
    k2 (some ((.int .i64 0), h19)) fun t24 h20 =>
    lp X [p2, p5, p22, p23, p24] zgX (kBlk 0 (kSeq X zgY [p2, p5] (K_y_0 X))) [t2, t5, t22, t23, t24] h20 := by kernel_rfl
theorem s_j_0 (X : Rn) (t12 : Value) (h : H) : sh X c_j_0 (K_j_0 X) (setL [p12] [t12]) h =
    k2 (zq 1 t12 (.bool true) h) fun _ h1 =>
    (vRes none t12 h1).bind fun r0 => some (.val (zg [r0]) h1) := by kernel_rfl
theorem s_j_1 (X : Rn) (l : Nat) (t7 t9 t10 t11 t12 t19 : Value) (h : H) : z0 X zfg l [t19] (setL [p7, p9, p10, p11, p12] [t7, t9, t10, t11, t12]) h =
    k2 (some (zh h [(.int .i64 0), (.int .i64 0), (.int .i64 0)])) fun t13 h1 =>
    k2 (zq 3 t13 t19 h1) fun _ h2 =>
    zfk l h2 fun h => sh X c_j_2 (K_j_2 X l) (setL [p7, p9, p10, p11, p12, p13, p19] [t7, t9, t10, t11, t12, t13, t19]) h := by kernel_rfl
theorem s_j_3 (X : Rn) (l : Nat) (t12 : Value) (h : H) : sh X c_j_3 (K_j_3 X l) (setL [p12] [t12]) h =
    k2 (zq 1 t12 (.bool false) h) fun _ h1 =>
    fin l (some .ret) h1 := by kernel_rfl
theorem s_j_4 (X : Rn) (l : Nat) (t10 t11 t13 t25 : Value) (h : H) : z0 X zff l [t25] (setL [p10, p11, p13] [t10, t11, t13]) h =
    k2 (some (t25, h)) fun t14 h1 =>
    zfk l h1 fun h => sh X c_j_5 (K_j_5 X l) (setL [p10, p11, p13, p14, p25] [t10, t11, t13, t14, t25]) h := by kernel_rfl
theorem s_j_6 (X : Rn) (l : Nat) (t10 t15 : Value) (h : H) : sh X c_j_6 (K_j_6 X l) (setL [p10, p15] [t10, t15]) h =
    k2 (zc t10 h) fun t35 h1 =>
    k2 (zj 2 t15 h1) fun t36 h2 =>
    k2 (zbM (.leaves [0, 1]) (.bool false) false t35 t36 h2) fun t37 h3 =>
    br t37
      (fin l (some (.exit 1)) h3)
      (fin l none h3) := by kernel_rfl
theorem s_j_5 (X : Rn) (l : Nat) (t10 t11 t13 t14 t25 : Value) (h : H) : sh X c_j_5 (K_j_5 X l) (setL [p10, p11, p13, p14, p25] [t10, t11, t13, t14, t25]) h =
    k2 (zd 1 t13 h) fun t26 h1 =>
    k2 (zc t26 h1) fun t27 h2 =>
    k2 (some (t14, h2)) fun t28 h3 =>
    k2 ((zn [(.int .i64 0), (.int .i64 0)] [(0, 1, t27), (1, 1, t28)]).map fun c => (Value.agg ⟨c⟩, h3)) fun t29 h4 =>
    k2 (some (zh h4 [(.int .i64 0), (.int .i64 0)])) fun t15 h5 =>
    k2 (zq 2 t15 t29 h5) fun _ h6 =>
    k2 (zc t11 h6) fun t30 h7 =>
    br t30
      (k2 (some (t14, h7)) fun t31 h8 =>
    k2 (zd 1 t13 h8) fun t32 h9 =>
    k2 (zc t32 h9) fun t33 h10 =>
    k2 ((zn [(.int .i64 0), (.int .i64 0)] [(0, 1, t31), (1, 1, t33)]).map fun c => (Value.agg ⟨c⟩, h10)) fun t34 h11 =>
    k2 (zq 2 t15 t34 h11) fun _ h12 =>
    sh X c_j_6 (K_j_6 X l) (setL [p10, p15] [t10, t15]) h12)
      (sh X c_j_6 (K_j_6 X l) (setL [p10, p15] [t10, t15]) h7) := by kernel_rfl
theorem s_j_2 (X : Rn) (l : Nat) (t7 t9 t10 t11 t12 t13 t19 : Value) (h : H) : sh X c_j_2 (K_j_2 X l) (setL [p7, p9, p10, p11, p12, p13, p19] [t7, t9, t10, t11, t12, t13, t19]) h =
    k2 (zj 3 t7 h) fun t20 h1 =>
    k2 (zc t9 h1) fun t21 h2 =>
    k2 (zd 2 t13 h2) fun t22 h3 =>
    k2 (zc t22 h3) fun t23 h4 =>
    k2 (X.call (.func (.func n_B) #[] #[]) [t20, t21, t23] h4) fun t24 h5 =>
    (isFn t24).bind fun fv => k2 (X.call fv [.func (.yield h5.next) #[] #[]] (h5.new (.loop .ready none (setL [p10, p11, p13] [t10, t11, t13]) zff))) fun _ h6 =>
    rgP h5.next h6 (fun h7 => sh X c_j_3 (K_j_3 X l) (setL [p12] [t12]) h7) (fun i h7 => bx i 2 (sh X c_j_3 (K_j_3 X l) (setL [p12] [t12]) h7) (bx i 1 (fin l none h7) (fin l (some (.exit i)) h7))) (fun h7 => fin l (some .ret) h7) := by kernel_rfl
theorem s_j (X : Rn) (t0 t1 t2 t3 t4 t5 : Value) (h : H) : zl X 6 f_j [t0, t1, t2, t3, t4, t5] h =
    k2 (some (zh h (zi t0))) fun t6 h1 =>
    k2 (some (zh h1 (zi t1))) fun t7 h2 =>
    k2 (some (zh h2 (zi t3))) fun t9 h3 =>
    k2 (some (zh h3 (zi t4))) fun t10 h4 =>
    k2 (some (zh h4 (zi t5))) fun t11 h5 =>
    k2 (some (zh h5 [(.bool false)])) fun t12 h6 =>
    k2 (zj 3 t6 h6) fun t16 h7 =>
    k2 (some (t2, h7)) fun t17 h8 =>
    k2 (X.call (.func (.func n_D) #[] #[]) [t16, t17] h8) fun t18 h9 =>
    (isFn t18).bind fun fv => k2 (X.call fv [.func (.yield h9.next) #[] #[]] (h9.new (.loop .ready none (setL [p7, p9, p10, p11, p12] [t7, t9, t10, t11, t12]) zfg))) fun _ h10 =>
    rgP h9.next h10 (fun h11 => sh X c_j_0 (K_j_0 X) (setL [p12] [t12]) h11) (fun i h11 => bx i 0 (sh X c_j_0 (K_j_0 X) (setL [p12] [t12]) h11) (none)) (fun h11 => (vRes none t12 h11).bind fun r0 => some (.val (zg [r0]) h11)) := by kernel_rfl
theorem s_A_0 (X : Rn) (h : H) : sh X c_A_0 (K_A_0 X) (setL [] []) h =
    k2 (some ((.bool false), h)) fun t6 h1 =>
    some (.val (zg [t6]) h1) := by kernel_rfl
theorem s_A_1 (X : Rn) (t0 t1 t2 t7 : Value) (h : H) : sh X c_A_1 (K_A_1 X) (setL [p0, p1, p2, p7] [t0, t1, t2, t7]) h =
    k2 (some (t7, h)) fun t8 h1 =>
    k2 (some (t0, h1)) fun t9 h2 =>
    k2 (bltV h2 .len [t9]) fun t10 h3 =>
    k2 (vBin .lss .other t8 t10 h3) fun t11 h4 =>
    br t11
      (k2 (some (t0, h4)) fun t14 h5 =>
    k2 (some (t7, h5)) fun t15 h6 =>
    k2 (zr 2 t14 t15 h6) fun t16 h7 =>
    k2 (zj 2 t16 h7) fun t17 h8 =>
    k2 (some (t1, h8)) fun t18 h9 =>
    k2 (some (t2, h9)) fun t19 h10 =>
    k2 ((zn [(.int .i64 0), (.int .i64 0)] [(0, 1, t18), (1, 1, t19)]).map fun c => (Value.agg ⟨c⟩, h10)) fun t20 h11 =>
    k2 (vBin .eql (.leaves [0, 1]) t17 t20 h11) fun t21 h12 =>
    br t21
      (k2 (some ((.bool true), h12)) fun t6 h13 =>
    some (.val (zg [t6]) h13))
      (k2 (some (t7, h12)) fun t12 h14 =>
    k2 (vBin .add .other t12 (.int .i64 1) h14) fun t13 h15 =>
    k2 (some (t13, h15)) fun t7_16 h17 =>
    lp X [p0, p1, p2, p7] c_A_1 (kBlk 0 (kSeq X c_A_0 [] (K_A_0 X))) [t0, t1, t2, t7_16] h17))
      (sh X c_A_0 (K_A_0 X) (setL [] []) h4) := by kernel_rfl
theorem l_A_1 (F : FuncId → Option zp) (t0 t1 t2 t7 : Value) (h : H) {r : Out} : let X := rI F; sh X c_A_1 (K_A_1 X) (setL [p0, p1, p2, p7] [t0, t1, t2, t7]) h = some r → lp X [p0, p1, p2, p7] c_A_1 (kBlk 0 (kSeq X c_A_0 [] (K_A_0 X))) [t0, t1, t2, t7] h = some r := fun hv => zW (by decide) hv
theorem s_A (X : Rn) (t0 t1 t2 : Value) (h : H) : zl X 3 f_A [t0, t1, t2] h =
    k2 (some ((.bool false), h)) fun t6 h1 =>
    k2 (some ((.int .i64 0), h1)) fun t7 h2 =>
    lp X [p0, p1, p2, p7] c_A_1 (kBlk 0 (kSeq X c_A_0 [] (K_A_0 X))) [t0, t1, t2, t7] h2 := by kernel_rfl
theorem s_D (X : Rn) (t0 t1 : Value) (h : H) : zl X 2 f_D [t0, t1] h =
    k2 (some (zh h (zi t0))) fun t2 h1 =>
    k2 (some (zh h1 (zi t1))) fun t3 h2 =>
    k2 (some (.nilFunc, h2)) fun t4 h3 =>
    k2 (some (.func (.func n_C) ⟨[]⟩ ⟨[t2, t3]⟩, h3)) fun t5 h4 =>
    k2 (some (t5, h4)) fun t4 h5 =>
    some (.val (zg [t4]) h5) := by kernel_rfl
theorem s_E (X : Rn) (t0 t1 : Value) (h : H) : zl X 2 f_E [t0, t1] h =
    k2 (some ((.int .i64 0), h)) fun t4 h1 =>
    k2 (some (t0, h1)) fun t7 h2 =>
    k2 (X.call (.func (.func n_H) #[] #[]) [t7] h2) fun t8 h3 =>
    k2 (some (t8, h3)) fun t5 h4 =>
    k2 (some (t1, h4)) fun t9 h5 =>
    k2 (X.call (.func (.func n_H) #[] #[]) [t9] h5) fun t10 h6 =>
    k2 (some (t10, h6)) fun t6 h7 =>
    k2 (some (t5, h7)) fun t11 h8 =>
    br t11
      (k2 (some (t6, h8)) fun t12 h9 =>
    br t12
      (k2 (some ((.int .i64 0), h9)) fun t4 h10 =>
    some (.val (zg [t4]) h10))
      (k2 (some ((.int .i64 (-1)), h9)) fun t4 h11 =>
    some (.val (zg [t4]) h11)))
      (k2 (some (t6, h8)) fun t13 h12 =>
    br t13
      (k2 (some ((.int .i64 1), h12)) fun t4 h13 =>
    some (.val (zg [t4]) h13))
      (k2 (some (t0, h12)) fun t14 h14 =>
    k2 (some (t1, h14)) fun t15 h15 =>
    k2 (vBin .lss .other t14 t15 h15) fun t16 h16 =>
    br t16
      (k2 (some ((.int .i64 (-1)), h16)) fun t4 h17 =>
    some (.val (zg [t4]) h17))
      (k2 (some (t0, h16)) fun t17 h18 =>
    k2 (some (t1, h18)) fun t18 h19 =>
    k2 (vBin .gtr .other t17 t18 h19) fun t19 h20 =>
    br t19
      (k2 (some ((.int .i64 1), h20)) fun t4 h21 =>
    some (.val (zg [t4]) h21))
      (k2 (some ((.int .i64 0), h20)) fun t4 h22 =>
    some (.val (zg [t4]) h22))))) := by kernel_rfl
theorem s_x_0 (X : Rn) (t3 : Value) (h : H) : sh X zia (K_x_0 X) (setL [p3] [t3]) h =
    k2 (some (t3, h)) fun t17 h1 =>
    k2 (some (t17, h1)) fun t2 h2 =>
    some (.val (zg [t2]) h2) := by kernel_rfl
theorem s_x_1 (X : Rn) (t3 t6 t7 t8 : Value) (h : H) : sh X zh9 (K_x_1 X) (setL [p3, p6, p7, p8] [t3, t6, t7, t8]) h =
    k2 (vBin .lss .other t8 t7 h) fun t9 h1 =>
    br t9
      (k2 (zr 1 t6 t8 h1) fun t10 h2 =>
    k2 (zc t10 h2) fun t11 h3 =>
    k2 (some (t11, h3)) fun t5 h4 =>
    k2 (some (t5, h4)) fun t12 h5 =>
    k2 (some (t3, h5)) fun t13 h6 =>
    k2 (vBin .neq .other t12 t13 h6) fun t14 h7 =>
    br t14
      (k2 (some (t5, h7)) fun t15 h8 =>
    k2 (some (t15, h8)) fun t2 h9 =>
    some (.val (zg [t2]) h9))
      (k2 (vBin .add .other t8 (.int .i64 1) h7) fun t16 h10 =>
    k2 (some (t16, h10)) fun t8_11 h12 =>
    lp X [p3, p6, p7, p8] zh9 (kBlk 0 (kSeq X zia [p3] (K_x_0 X))) [t3, t6, t7, t8_11] h12))
      (sh X zia (K_x_0 X) (setL [p3] [t3]) h1) := by kernel_rfl
theorem l_x_1 (F : FuncId → Option zp) (t3 t6 t7 t8 : Value) (h : H) {r : Out} : let X := rI F; sh X zh9 (K_x_1 X) (setL [p3, p6, p7, p8] [t3, t6, t7, t8]) h = some r → lp X [p3, p6, p7, p8] zh9 (kBlk 0 (kSeq X zia [p3] (K_x_0 X))) [t3, t6, t7, t8] h = some r := fun hv => zW (by decide) hv
theorem s_x (X : Rn) (t0 : Value) (h : H) : zl X 1 f_x [t0] h =
    k2 (some ((.int .i64 0), h)) fun t2 h1 =>
    k2 (some ((.int .i64 0), h1)) fun t3 h2 =>
    k2 (some (t0, h2)) fun t6 h3 =>
    k2 (bltV h3 .len [t6]) fun t7 h4 =>
    k2 (some ((.int .i64 0), h4)) fun t8 h5 =>
    lp X [p3, p6, p7, p8] zh9 (kBlk 0 (kSeq X zia [p3] (K_x_0 X))) [t3, t6, t7, t8] h5 := by kernel_rfl
theorem s_f_0 (X : Rn) (t10 t11 : Value) (h : H) : sh X c_f_0 (K_f_0 X) (setL [p10, p11] [t10, t11]) h =
    k2 ((zn [(.int .i64 0), (.int .i64 0), (.int .i64 0)] []).map fun c => (Value.agg ⟨c⟩, h)) fun t24 h1 =>
    k2 (zq 3 t10 t24 h1) fun _ h2 =>
    k2 (zq 1 t11 (.bool false) h2) fun _ h3 =>
    (vRes (some 3) t10 h3).bind fun r0 => (vRes none t11 h3).bind fun r1 => some (.val (zg [r0, r1]) h3) := by kernel_rfl
theorem s_f_1 (X : Rn) (l : Nat) (t5 t6 t8 t9 t10 t11 t16 : Value) (h : H) : z0 X zdz l [t16] (setL [p5, p6, p8, p9, p10, p11] [t5, t6, t8, t9, t10, t11]) h =
    k2 (some (zh h [(.int .i64 0), (.int .i64 0), (.int .i64 0)])) fun t12 h1 =>
    k2 (zq 3 t12 t16 h1) fun _ h2 =>
    zfk l h2 fun h => sh X c_f_2 (K_f_2 X l) (setL [p5, p6, p8, p9, p10, p11, p12, p16] [t5, t6, t8, t9, t10, t11, t12, t16]) h := by kernel_rfl
theorem s_f_2 (X : Rn) (l : Nat) (t5 t6 t8 t9 t10 t11 t12 t16 : Value) (h : H) : sh X c_f_2 (K_f_2 X l) (setL [p5, p6, p8, p9, p10, p11, p12, p16] [t5, t6, t8, t9, t10, t11, t12, t16]) h =
    k2 (zc t5 h) fun t17 h1 =>
    k2 (zj 3 t6 h1) fun t18 h2 =>
    k2 (zj 3 t12 h2) fun t19 h3 =>
    k2 (zc t8 h3) fun t20 h4 =>
    k2 (zc t9 h4) fun t21 h5 =>
    k2 (X.call (.func (.func n_g) #[] #[]) [t17, t18, t19, t20, t21] h5) fun t22 h6 =>
    br t22
      (k2 (zj 3 t12 h6) fun t23 h7 =>
    k2 (zq 3 t10 t23 h7) fun _ h8 =>
    k2 (zq 1 t11 (.bool true) h8) fun _ h9 =>
    fin l (some .ret) h9)
      (fin l none h6) := by kernel_rfl
theorem s_f (X : Rn) (t0 t1 t2 t3 t4 : Value) (h : H) : zl X 5 f_f [t0, t1, t2, t3, t4] h =
    k2 (some (zh h (zi t0))) fun t5 h1 =>
    k2 (some (zh h1 (zi t1))) fun t6 h2 =>
    k2 (some (zh h2 (zi t3))) fun t8 h3 =>
    k2 (some (zh h3 (zi t4))) fun t9 h4 =>
    k2 (some (zh h4 [(.int .i64 0), (.int .i64 0), (.int .i64 0)])) fun t10 h5 =>
    k2 (some (zh h5 [(.bool false)])) fun t11 h6 =>
    k2 (zj 3 t6 h6) fun t13 h7 =>
    k2 (some (t2, h7)) fun t14 h8 =>
    k2 (X.call (.func (.func n_D) #[] #[]) [t13, t14] h8) fun t15 h9 =>
    (isFn t15).bind fun fv => k2 (X.call fv [.func (.yield h9.next) #[] #[]] (h9.new (.loop .ready none (setL [p5, p6, p8, p9, p10, p11] [t5, t6, t8, t9, t10, t11]) zdz))) fun _ h10 =>
    rgP h9.next h10 (fun h11 => sh X c_f_0 (K_f_0 X) (setL [p10, p11] [t10, t11]) h11) (fun i h11 => bx i 0 (sh X c_f_0 (K_f_0 X) (setL [p10, p11] [t10, t11]) h11) (none)) (fun h11 => (vRes (some 3) t10 h11).bind fun r0 => (vRes none t11 h11).bind fun r1 => some (.val (zg [r0, r1]) h11)) := by kernel_rfl
theorem s_B (X : Rn) (t0 t1 t2 : Value) (h : H) : zl X 3 f_B [t0, t1, t2] h =
    k2 (some (zh h (zi t0))) fun t3 h1 =>
    k2 (some (zh h1 (zi t1))) fun t4 h2 =>
    k2 (some (zh h2 (zi t2))) fun t5 h3 =>
    k2 (some (.nilFunc, h3)) fun t6 h4 =>
    k2 (some (.func (.func n_G) ⟨[]⟩ ⟨[t3, t4, t5]⟩, h4)) fun t7 h5 =>
    k2 (some (t7, h5)) fun t6 h6 =>
    some (.val (zg [t6]) h6) := by kernel_rfl
theorem s_z_0 (X : Rn) (h : H) : sh X c_z_0 (K_z_0 X) (setL [] []) h =
    k2 (some ((.bool false), h)) fun t8 h1 =>
    some (.val (zg [t8]) h1) := by kernel_rfl
theorem s_z_1 (X : Rn) (t0 t1 t2 t3 t9 : Value) (h : H) : sh X c_z_1 (K_z_1 X) (setL [p0, p1, p2, p3, p9] [t0, t1, t2, t3, t9]) h =
    k2 (some (t9, h)) fun t10 h1 =>
    k2 (some (t0, h1)) fun t11 h2 =>
    k2 (some (t2, h2)) fun t12 h3 =>
    k2 (zr 1 t11 t12 h3) fun t13 h4 =>
    k2 (zc t13 h4) fun t14 h5 =>
    k2 (bltV h5 .len [t14]) fun t15 h6 =>
    k2 (vBin .lss .other t10 t15 h6) fun t16 h7 =>
    br t16
      (k2 (some (t0, h7)) fun t19 h8 =>
    k2 (some (t1, h8)) fun t20 h9 =>
    k2 (some (t0, h9)) fun t21 h10 =>
    k2 (some (t2, h10)) fun t22 h11 =>
    k2 (zr 1 t21 t22 h11) fun t23 h12 =>
    k2 (zc t23 h12) fun t24 h13 =>
    k2 (some (t9, h13)) fun t25 h14 =>
    k2 (zr 3 t24 t25 h14) fun t26 h15 =>
    k2 (zj 3 t26 h15) fun t27 h16 =>
    k2 (some (t3, h16)) fun t28 h17 =>
    k2 (X.call (.func (.func n_i) #[] #[]) [t19, t20, t27, t28, (.int .i64 (-1))] h17) fun t29 h18 =>
    br t29
      (k2 (some ((.bool true), h18)) fun t8 h19 =>
    some (.val (zg [t8]) h19))
      (k2 (some (t9, h18)) fun t17 h20 =>
    k2 (vBin .add .other t17 (.int .i64 1) h20) fun t18 h21 =>
    k2 (some (t18, h21)) fun t9_22 h23 =>
    lp X [p0, p1, p2, p3, p9] c_z_1 (kBlk 0 (kSeq X c_z_0 [] (K_z_0 X))) [t0, t1, t2, t3, t9_22] h23))
      (sh X c_z_0 (K_z_0 X) (setL [] []) h7) := by kernel_rfl
theorem l_z_1 (F : FuncId → Option zp) (t0 t1 t2 t3 t9 : Value) (h : H) {r : Out} : let X := rI F; sh X c_z_1 (K_z_1 X) (setL [p0, p1, p2, p3, p9] [t0, t1, t2, t3, t9]) h = some r → lp X [p0, p1, p2, p3, p9] c_z_1 (kBlk 0 (kSeq X c_z_0 [] (K_z_0 X))) [t0, t1, t2, t3, t9] h = some r := fun hv => zW (by decide) hv
theorem s_z (X : Rn) (t0 t1 t2 t3 : Value) (h : H) : zl X 4 f_z [t0, t1, t2, t3] h =
    k2 (some ((.bool false), h)) fun t8 h1 =>
    k2 (some ((.int .i64 0), h1)) fun t9 h2 =>
    lp X [p0, p1, p2, p3, p9] c_z_1 (kBlk 0 (kSeq X c_z_0 [] (K_z_0 X))) [t0, t1, t2, t3, t9] h2 := by kernel_rfl
theorem s_i_0 (X : Rn) (h : H) : sh X c_i_0 (K_i_0 X) (setL [] []) h =
    k2 (some ((.bool true), h)) fun t10 h1 =>
    some (.val (zg [t10]) h1) := by kernel_rfl
theorem s_i_2 (X : Rn) (t0 t1 t3 t4 t7 t11 : Value) (h : H) : sh X c_i_2 (K_i_2 X) (setL [p0, p1, p3, p4, p7, p11] [t0, t1, t3, t4, t7, t11]) h =
    k2 (some (t11, h)) fun t21 h1 =>
    k2 (vBin .add .other t21 (.int .i64 1) h1) fun t22 h2 =>
    k2 (some (t22, h2)) fun t11_3 h4 =>
    lp X [p0, p1, p3, p4, p7, p11] c_i_1 (kBlk 0 (kSeq X c_i_0 [] (K_i_0 X))) [t0, t1, t3, t4, t7, t11_3] h4 := by kernel_rfl
theorem s_i_1 (X : Rn) (t0 t1 t3 t4 t7 t11 : Value) (h : H) : sh X c_i_1 (K_i_1 X) (setL [p0, p1, p3, p4, p7, p11] [t0, t1, t3, t4, t7, t11]) h =
    k2 (some (t11, h)) fun t14 h1 =>
    k2 (some (t0, h1)) fun t15 h2 =>
    k2 (some (t3, h2)) fun t16 h3 =>
    k2 (zr 1 t15 t16 h3) fun t17 h4 =>
    k2 (zc t17 h4) fun t18 h5 =>
    k2 (bltV h5 .len [t18]) fun t19 h6 =>
    k2 (vBin .lss .other t14 t19 h6) fun t20 h7 =>
    br t20
      (k2 (some (t0, h7)) fun t23 h8 =>
    k2 (some (t3, h8)) fun t24 h9 =>
    k2 (zr 1 t23 t24 h9) fun t25 h10 =>
    k2 (zc t25 h10) fun t26 h11 =>
    k2 (some (t11, h11)) fun t27 h12 =>
    k2 (zr 3 t26 t27 h12) fun t28 h13 =>
    k2 (zj 3 t28 h13) fun t29 h14 =>
    k2 (some (zh h14 [(.int .i64 0), (.int .i64 0), (.int .i64 0)])) fun t12 h15 =>
    k2 (zq 3 t12 t29 h15) fun _ h16 =>
    k2 (zd 2 t12 h16) fun t30 h17 =>
    k2 (zc t30 h17) fun t31 h18 =>
    k2 (zd 2 t7 h18) fun t32 h19 =>
    k2 (zc t32 h19) fun t33 h20 =>
    k2 (vBin .neq .other t31 t33 h20) fun t34 h21 =>
    br t34
      (sh X c_i_2 (K_i_2 X) (setL [p0, p1, p3, p4, p7, p11] [t0, t1, t3, t4, t7, t11]) h21)
      (k2 (some (t1, h21)) fun t35 h22 =>
    k2 (zd 1 t7 h22) fun t36 h23 =>
    k2 (rdF (fun b => zc t36 b) 0 h23 [(0, h21)]) fun t37 h24 =>
    k2 (zr 1 t35 t37 h24) fun t38 h25 =>
    k2 (rdF (fun b => zc t38 b) 0 h25 [(0, h21)]) fun t39 h26 =>
    k2 (zd 1 t12 h26) fun t40 h27 =>
    k2 (rdF (fun b => zc t40 b) 0 h27 [(0, h21)]) fun t41 h28 =>
    k2 (zr 1 t39 t41 h28) fun t42 h29 =>
    k2 (rdF (fun b => zc t42 b) 0 h29 [(0, h21)]) fun t43 h30 =>
    k2 (some (t43, h30)) fun t13 h31 =>
    k2 (some (t13, h31)) fun t44 h32 =>
    k2 (vBin .eql .other t44 (.int .i64 0) h32) fun t45 h33 =>
    k2 (some (t45, h33)) fun t46 h34 =>
    k2 (gd t46 false h34 (some (t4, h34))) fun t47 h35 =>
    k2 (gd t46 false h35 (vBin .geq .other t47 (.int .i64 0) h35)) fun t48 h36 =>
    k2 (gd t46 false h36 (some (t48, h36))) fun t49 h37 =>
    k2 (gd t49 true h37 (some (t13, h37))) fun t50 h38 =>
    k2 (gd t49 true h38 (some (t4, h38))) fun t51 h39 =>
    k2 (gd t49 true h39 (vBin .gtr .other t50 t51 h39)) fun t52 h40 =>
    k2 (gd t46 false h40 (zD t49 t52 (.bool false) h40)) fun t53 h41 =>
    k2 (zD t46 (.bool true) t53 h41) fun t54 h42 =>
    br t54
      (k2 (some ((.bool false), h42)) fun t10 h43 =>
    some (.val (zg [t10]) h43))
      (sh X c_i_2 (K_i_2 X) (setL [p0, p1, p3, p4, p7, p11] [t0, t1, t3, t4, t7, t11]) h42)))
      (sh X c_i_0 (K_i_0 X) (setL [] []) h7) := by kernel_rfl
theorem l_i_1 (F : FuncId → Option zp) (t0 t1 t3 t4 t7 t11 : Value) (h : H) {r : Out} : let X := rI F; sh X c_i_1 (K_i_1 X) (setL [p0, p1, p3, p4, p7, p11] [t0, t1, t3, t4, t7, t11]) h = some r → lp X [p0, p1, p3, p4, p7, p11] c_i_1 (kBlk 0 (kSeq X c_i_0 [] (K_i_0 X))) [t0, t1, t3, t4, t7, t11] h = some r := fun hv => zW (by decide) hv
theorem s_i (X : Rn) (t0 t1 t2 t3 t4 : Value) (h : H) : zl X 5 f_i [t0, t1, t2, t3, t4] h =
    k2 (some (zh h (zi t2))) fun t7 h1 =>
    k2 (some ((.bool false), h1)) fun t10 h2 =>
    k2 (some ((.int .i64 0), h2)) fun t11 h3 =>
    lp X [p0, p1, p3, p4, p7, p11] c_i_1 (kBlk 0 (kSeq X c_i_0 [] (K_i_0 X))) [t0, t1, t3, t4, t7, t11] h3 := by kernel_rfl
theorem s_l (X : Rn) (t0 : Value) (h : H) : zl X 1 f_l [t0] h =
    k2 (some ((.slice none 0 0), h)) fun t2 h1 =>
    k2 (some (t0, h1)) fun t3 h2 =>
    k2 (vBin .eql .slice t3 (.slice none 0 0) h2) fun t4 h3 =>
    br t4
      (k2 (some ((.slice none 0 0), h3)) fun t2 h4 =>
    some (.val (zg [t2]) h4))
      (k2 (zR 0 (zn (zo [(.int .i64 0), (.int .i64 0), (.int .i64 0)] 0) []) h3) fun t5 h5 =>
    k2 (some (t0, h5)) fun t6 h6 =>
    k2 (bltV h6 (.append 3 24) [t5, t6]) fun t7 h7 =>
    k2 (some (t7, h7)) fun t2 h8 =>
    some (.val (zg [t2]) h8)) := by kernel_rfl
theorem s_C_0 (X : Rn) (t0 t2 t18 t19 t20 : Value) (h : H) : sh X zic (K_C_0 X) (setL [p0, p2, p18, p19, p20] [t0, t2, t18, t19, t20]) h =
    k2 (vBin .lss .other t20 t19 h) fun t21 h1 =>
    br t21
      (k2 (zr 3 t18 t20 h1) fun t22 h2 =>
    k2 (zj 3 t22 h2) fun t23 h3 =>
    k2 (some (zh h3 [(.int .i64 0), (.int .i64 0), (.int .i64 0)])) fun t7 h4 =>
    k2 (zq 3 t7 t23 h4) fun _ h5 =>
    k2 (zd 0 t7 h5) fun t24 h6 =>
    k2 (zc t24 h6) fun t25 h7 =>
    k2 (zc t2 h7) fun t26 h8 =>
    k2 (vBin .neq .other t25 t26 h8) fun t27 h9 =>
    k2 (some (t27, h9)) fun t28 h10 =>
    k2 (gd t28 false h10 (some (t0, h10))) fun t29 h11 =>
    k2 (gd t28 false h11 (zj 3 t7 h11)) fun t30 h12 =>
    k2 (gd t28 false h12 (X.call t29 [t30] h12)) fun t31 h13 =>
    k2 (gd t28 false h13 (vUn .not t31 h13)) fun t32 h14 =>
    k2 (zD t28 (.bool true) t32 h14) fun t33 h15 =>
    br t33
      (some (.val (zg []) h15))
      (k2 (vBin .add .other t20 (.int .i64 1) h15) fun t34 h16 =>
    k2 (some (t34, h16)) fun t20_17 h18 =>
    lp X [p0, p2, p18, p19, p20] zic (kBlk 0 (fnK [])) [t0, t2, t18, t19, t20_17] h18))
      (some (.val (zg []) h1)) := by kernel_rfl
theorem l_C_0 (F : FuncId → Option zp) (t0 t2 t18 t19 t20 : Value) (h : H) {r : Out} : let X := rI F; sh X zic (K_C_0 X) (setL [p0, p2, p18, p19, p20] [t0, t2, t18, t19, t20]) h = some r → lp X [p0, p2, p18, p19, p20] zic (kBlk 0 (fnK [])) [t0, t2, t18, t19, t20] h = some r := fun hv => zW (by decide) hv
theorem s_C (X : Rn) (t0 t1 t2 : Value) (h : H) : zl X 3 f_C [t0, t1, t2] h =
    k2 (zd 2 t1 h) fun t9 h1 =>
    k2 (zc t9 h1) fun t10 h2 =>
    k2 (zc t2 h2) fun t11 h3 =>
    k2 (X.call (.func (.func n_b) #[] #[]) [t10, t11, (.func (.func n_U) #[] #[])] h3) fun t12 h4 =>
    k2 (some (t12, h4)) fun t8 h5 =>
    k2 (zm 0 t8 h5) fun t13 h6 =>
    k2 (zm 1 t8 h6) fun t14 h7 =>
    k2 (some (t13, h7)) fun t4 h8 =>
    k2 (some (t14, h8)) fun t5 h9 =>
    k2 (zd 2 t1 h9) fun t15 h10 =>
    k2 (zc t15 h10) fun t16 h11 =>
    k2 (some (t4, h11)) fun t17 h12 =>
    k2 (zd2 3 h12 (some t17) none t16) fun t18 h13 =>
    k2 (bltV h13 .len [t18]) fun t19 h14 =>
    k2 (some ((.int .i64 0), h14)) fun t20 h15 =>
    lp X [p0, p2, p18, p19, p20] zic (kBlk 0 (fnK [])) [t0, t2, t18, t19, t20] h15 := by kernel_rfl
theorem s_b_0 (X : Rn) (t0 t1 t2 t8 t9 : Value) (h : H) : sh X zg6 (K_b_0 X) (setL [p0, p1, p2, p8, p9] [t0, t1, t2, t8, t9]) h =
    k2 (some (t9, h)) fun t35 h1 =>
    k2 (some (t9, h1)) fun t36 h2 =>
    k2 (some (t8, h2)) fun t37 h3 =>
    k2 (vBin .lss .other t36 t37 h3) fun t38 h4 =>
    k2 (some (t38, h4)) fun t39 h5 =>
    k2 (gd t39 true h5 (some (t2, h5))) fun t40 h6 =>
    k2 (gd t39 true h6 (some (t0, h6))) fun t41 h7 =>
    k2 (gd t39 true h7 (some (t9, h7))) fun t42 h8 =>
    k2 (gd t39 true h8 (zr 3 t41 t42 h8)) fun t43 h9 =>
    k2 (gd t39 true h9 (zj 3 t43 h9)) fun t44 h10 =>
    k2 (gd t39 true h10 (some (t1, h10))) fun t45 h11 =>
    k2 (gd t39 true h11 (X.call t40 [t44, t45] h11)) fun t46 h12 =>
    k2 (gd t39 true h12 (vBin .eql .other t46 (.int .i64 0) h12)) fun t47 h13 =>
    k2 (zD t39 t47 (.bool false) h13) fun t48 h14 =>
    k2 (some (t35, h14)) fun t6 h15 =>
    k2 (some (t48, h15)) fun t7 h16 =>
    some (.val (zg [t6, t7]) h16) := by kernel_rfl
theorem s_b_1 (X : Rn) (t0 t1 t2 t8 t9 t10 : Value) (h : H) : sh X zgp (K_b_1 X) (setL [p0, p1, p2, p8, p9, p10] [t0, t1, t2, t8, t9, t10]) h =
    k2 (some (t9, h)) fun t15 h1 =>
    k2 (some (t10, h1)) fun t16 h2 =>
    k2 (vBin .lss .other t15 t16 h2) fun t17 h3 =>
    br t17
      (k2 (some (t9, h3)) fun t18 h4 =>
    k2 (some (t10, h4)) fun t19 h5 =>
    k2 (vBin .add .other t18 t19 h5) fun t20 h6 =>
    k2 (vConv .u64 t20 h6) fun t21 h7 =>
    k2 (vBin .shr .other t21 (.int .u64 1) h7) fun t22 h8 =>
    k2 (vConv .i64 t22 h8) fun t23 h9 =>
    k2 (some (t23, h9)) fun t11 h10 =>
    k2 (some (t2, h10)) fun t24 h11 =>
    k2 (some (t0, h11)) fun t25 h12 =>
    k2 (some (t11, h12)) fun t26 h13 =>
    k2 (zr 3 t25 t26 h13) fun t27 h14 =>
    k2 (zj 3 t27 h14) fun t28 h15 =>
    k2 (some (t1, h15)) fun t29 h16 =>
    k2 (X.call t24 [t28, t29] h16) fun t30 h17 =>
    k2 (vBin .lss .other t30 (.int .i64 0) h17) fun t31 h18 =>
    br t31
      (k2 (some (t11, h18)) fun t32 h19 =>
    k2 (vBin .add .other t32 (.int .i64 1) h19) fun t33 h20 =>
    k2 (some (t33, h20)) fun t9_21 h22 =>
    lp X [p0, p1, p2, p8, p9, p10] zgp (kBlk 0 (kSeq X zg6 [p0, p1, p2, p8, p9] (K_b_0 X))) [t0, t1, t2, t8, t9_21, t10] h22)
      (k2 (some (t11, h18)) fun t34 h23 =>
    k2 (some (t34, h23)) fun t10_24 h25 =>
    lp X [p0, p1, p2, p8, p9, p10] zgp (kBlk 0 (kSeq X zg6 [p0, p1, p2, p8, p9] (K_b_0 X))) [t0, t1, t2, t8, t9, t10_24] h25))
      (sh X zg6 (K_b_0 X) (setL [p0, p1, p2, p8, p9] [t0, t1, t2, t8, t9]) h3) := by kernel_rfl
theorem l_b_1 (F : FuncId → Option zp) (t0 t1 t2 t8 t9 t10 : Value) (h : H) {r : Out} : let X := rI F; sh X zgp (K_b_1 X) (setL [p0, p1, p2, p8, p9, p10] [t0, t1, t2, t8, t9, t10]) h = some r → lp X [p0, p1, p2, p8, p9, p10] zgp (kBlk 0 (kSeq X zg6 [p0, p1, p2, p8, p9] (K_b_0 X))) [t0, t1, t2, t8, t9, t10] h = some r := fun hv => zW (by decide) hv
theorem s_b (X : Rn) (t0 t1 t2 : Value) (h : H) : zl X 3 f_b [t0, t1, t2] h =
    k2 (some ((.int .i64 0), h)) fun t6 h1 =>
    k2 (some ((.bool false), h1)) fun t7 h2 =>
    k2 (some (t0, h2)) fun t12 h3 =>
    k2 (bltV h3 .len [t12]) fun t13 h4 =>
    k2 (some (t13, h4)) fun t8 h5 =>
    k2 (some (t8, h5)) fun t14 h6 =>
    k2 (some ((.int .i64 0), h6)) fun t9 h7 =>
    k2 (some (t14, h7)) fun t10 h8 =>
    lp X [p0, p1, p2, p8, p9, p10] zgp (kBlk 0 (kSeq X zg6 [p0, p1, p2, p8, p9] (K_b_0 X))) [t0, t1, t2, t8, t9, t10] h8 := by kernel_rfl
theorem s_U (X : Rn) (t0 t1 : Value) (h : H) : zl X 2 f_U [t0, t1] h =
    k2 (some (zh h (zi t0))) fun t2 h1 =>
    k2 (some ((.int .i64 0), h1)) fun t4 h2 =>
    k2 (zd 0 t2 h2) fun t5 h3 =>
    k2 (zc t5 h3) fun t6 h4 =>
    k2 (some (t1, h4)) fun t7 h5 =>
    k2 (X.call (.func (.func n_E) #[] #[]) [t6, t7] h5) fun t8 h6 =>
    k2 (some (t8, h6)) fun t4 h7 =>
    some (.val (zg [t4]) h7) := by kernel_rfl
theorem s_H (X : Rn) (t0 : Value) (h : H) : zl X 1 f_H [t0] h =
    k2 (some ((.bool false), h)) fun t2 h1 =>
    k2 (some (t0, h1)) fun t3 h2 =>
    k2 (some (t0, h2)) fun t4 h3 =>
    k2 (vBin .neq .other t3 t4 h3) fun t5 h4 =>
    k2 (some (t5, h4)) fun t2 h5 =>
    some (.val (zg [t2]) h5) := by kernel_rfl
theorem s_g_0 (X : Rn) (t10 : Value) (h : H) : sh X c_g_0 (K_g_0 X) (setL [p10] [t10]) h =
    k2 (zq 1 t10 (.bool true) h) fun _ h1 =>
    (vRes none t10 h1).bind fun r0 => some (.val (zg [r0]) h1) := by kernel_rfl
theorem s_g_1 (X : Rn) (l : Nat) (t5 t7 t9 t10 t20 : Value) (h : H) : z0 X zdd l [t20] (setL [p5, p7, p9, p10] [t5, t7, t9, t10]) h =
    k2 (some (t20, h)) fun t11 h1 =>
    zfk l h1 fun h => sh X c_g_2 (K_g_2 X l) (setL [p5, p7, p9, p10, p11, p20] [t5, t7, t9, t10, t11, t20]) h := by kernel_rfl
theorem s_g_2 (X : Rn) (l : Nat) (t5 t7 t9 t10 t11 t20 : Value) (h : H) : sh X c_g_2 (K_g_2 X l) (setL [p5, p7, p9, p10, p11, p20] [t5, t7, t9, t10, t11, t20]) h =
    k2 (zd 1 t7 h) fun t21 h1 =>
    k2 (zc t21 h1) fun t22 h2 =>
    k2 (some (t11, h2)) fun t23 h3 =>
    k2 ((zn [(.int .i64 0), (.int .i64 0)] [(0, 1, t22), (1, 1, t23)]).map fun c => (Value.agg ⟨c⟩, h3)) fun t24 h4 =>
    k2 (some (zh h4 [(.int .i64 0), (.int .i64 0)])) fun t12 h5 =>
    k2 (zq 2 t12 t24 h5) fun _ h6 =>
    k2 (zc t5 h6) fun t26 h7 =>
    k2 (zj 2 t12 h7) fun t27 h8 =>
    k2 (zbM (.leaves [0, 1]) (.int .i64 0) true t26 t27 h8) fun t28 h9 =>
    k2 (some (t28, h9)) fun t25 h10 =>
    k2 (zm 0 t25 h10) fun t29 h11 =>
    k2 (zm 1 t25 h11) fun t30 h12 =>
    k2 (some (t29, h12)) fun t13 h13 =>
    k2 (some (t30, h13)) fun t14 h14 =>
    k2 (zj 2 t12 h14) fun t31 h15 =>
    k2 (some (t11, h15)) fun t32 h16 =>
    k2 (some (t11, h16)) fun t33 h17 =>
    k2 ((zn [(.int .i64 0), (.int .i64 0)] [(0, 1, t32), (1, 1, t33)]).map fun c => (Value.agg ⟨c⟩, h17)) fun t34 h18 =>
    k2 (vBin .eql (.leaves [0, 1]) t31 t34 h18) fun t35 h19 =>
    k2 (some (t35, h19)) fun t36 h20 =>
    k2 (gd t36 false h20 (some (t14, h20))) fun t37 h21 =>
    k2 (gd t36 false h21 (vUn .not t37 h21)) fun t38 h22 =>
    k2 (zD t36 (.bool true) t38 h22) fun t39 h23 =>
    k2 (some (t39, h23)) fun t40 h24 =>
    k2 (gd t40 false h24 (some (t13, h24))) fun t41 h25 =>
    k2 (gd t40 false h25 (zc t9 h25)) fun t42 h26 =>
    k2 (gd t40 false h26 (vBin .gtr .other t41 t42 h26)) fun t43 h27 =>
    k2 (zD t40 (.bool true) t43 h27) fun t44 h28 =>
    br t44
      (k2 (zq 1 t10 (.bool false) h28) fun _ h29 =>
    fin l (some .ret) h29)
      (fin l none h28) := by kernel_rfl
theorem s_g (X : Rn) (t0 t1 t2 t3 t4 : Value) (h : H) : zl X 5 f_g [t0, t1, t2, t3, t4] h =
    k2 (some (zh h (zi t0))) fun t5 h1 =>
    k2 (some (zh h1 (zi t1))) fun t6 h2 =>
    k2 (some (zh h2 (zi t2))) fun t7 h3 =>
    k2 (some (zh h3 (zi t4))) fun t9 h4 =>
    k2 (some (zh h4 [(.bool false)])) fun t10 h5 =>
    k2 (zj 3 t6 h5) fun t15 h6 =>
    k2 (some (t3, h6)) fun t16 h7 =>
    k2 (zd 2 t7 h7) fun t17 h8 =>
    k2 (zc t17 h8) fun t18 h9 =>
    k2 (X.call (.func (.func n_B) #[] #[]) [t15, t16, t18] h9) fun t19 h10 =>
    (isFn t19).bind fun fv => k2 (X.call fv [.func (.yield h10.next) #[] #[]] (h10.new (.loop .ready none (setL [p5, p7, p9, p10] [t5, t7, t9, t10]) zdd))) fun _ h11 =>
    rgP h10.next h11 (fun h12 => sh X c_g_0 (K_g_0 X) (setL [p10] [t10]) h12) (fun i h12 => bx i 0 (sh X c_g_0 (K_g_0 X) (setL [p10] [t10]) h12) (none)) (fun h12 => (vRes none t10 h12).bind fun r0 => some (.val (zg [r0]) h12)) := by kernel_rfl
theorem s_G_0 (X : Rn) (l : Nat) (t3 t4 t9 : Value) (h : H) : z0 X zd8 l [t9] (setL [p3, p4] [t3, t4]) h =
    k2 (some (zh h [(.int .i64 0), (.int .i64 0), (.int .i64 0)])) fun t5 h1 =>
    k2 (zq 3 t5 t9 h1) fun _ h2 =>
    zfk l h2 fun h => sh X c_G_1 (K_G_1 X l) (setL [p3, p4, p5, p9] [t3, t4, t5, t9]) h := by kernel_rfl
theorem s_G_1 (X : Rn) (l : Nat) (t3 t4 t5 t9 : Value) (h : H) : sh X c_G_1 (K_G_1 X l) (setL [p3, p4, p5, p9] [t3, t4, t5, t9]) h =
    k2 (zd 2 t5 h) fun t10 h1 =>
    k2 (zc t10 h1) fun t11 h2 =>
    k2 (zc t3 h2) fun t12 h3 =>
    k2 (vBin .eql .other t11 t12 h3) fun t13 h4 =>
    k2 (some (t13, h4)) fun t14 h5 =>
    k2 (gd t14 true h5 (zc t4 h5)) fun t15 h6 =>
    k2 (gd t14 true h6 (zd 1 t5 h6)) fun t16 h7 =>
    k2 (gd t14 true h7 (zc t16 h7)) fun t17 h8 =>
    k2 (gd t14 true h8 (X.call t15 [t17] h8)) fun t18 h9 =>
    k2 (gd t14 true h9 (vUn .not t18 h9)) fun t19 h10 =>
    k2 (zD t14 t19 (.bool false) h10) fun t20 h11 =>
    br t20
      (fin l (some .ret) h11)
      (fin l none h11) := by kernel_rfl
theorem s_G (X : Rn) (t0 t1 t2 t3 : Value) (h : H) : zl X 4 f_G [t0, t1, t2, t3] h =
    k2 (some (zh h (zi t0))) fun t4 h1 =>
    k2 (zj 3 t1 h1) fun t6 h2 =>
    k2 (zc t2 h2) fun t7 h3 =>
    k2 (X.call (.func (.func n_D) #[] #[]) [t6, t7] h3) fun t8 h4 =>
    (isFn t8).bind fun fv => k2 (X.call fv [.func (.yield h4.next) #[] #[]] (h4.new (.loop .ready none (setL [p3, p4] [t3, t4]) zd8))) fun _ h5 =>
    rgP h4.next h5 (fun h6 => some (.val (zg []) h6)) (fun i h6 => bx i 0 (some (.val (zg []) h6)) (none)) (fun h6 => some (.val (zg []) h6)) := by kernel_rfl
theorem s_bisA_0 (X : Rn) (t3 t4 t8 t17 t18 t19 : Value) (h : H) : sh X zc6 (K_bisA_0 X) (setL [p3, p4, p8, p17, p18, p19] [t3, t4, t8, t17, t18, t19]) h =
    k2 (vBin .lss .other t19 t18 h) fun t20 h1 =>
    br t20
      (k2 (zr 2 t17 t19 h1) fun t21 h2 =>
    k2 (zj 2 t21 h2) fun t22 h3 =>
    k2 (some (zh h3 [(.int .i64 0), (.int .i64 0)])) fun t10 h4 =>
    k2 (zq 2 t10 t22 h4) fun _ h5 =>
    k2 (zI 2 1 t10 (.int .i64 0) h5) fun t23 h6 =>
    k2 (zc t23 h6) fun t24 h7 =>
    k2 (zI 2 1 t10 (.int .i64 1) h7) fun t25 h8 =>
    k2 (zc t25 h8) fun t26 h9 =>
    k2 (bltV h9 .min [t24, t26]) fun t27 h10 =>
    k2 (vBin .lss .other t27 (.int .i64 0) h10) fun t28 h11 =>
    k2 (some (t28, h11)) fun t29 h12 =>
    k2 (gd t29 false h12 (zI 2 1 t10 (.int .i64 0) h12)) fun t30 h13 =>
    k2 (gd t29 false h13 (zc t30 h13)) fun t31 h14 =>
    k2 (gd t29 false h14 (zd 0 t3 h14)) fun t32 h15 =>
    k2 (gd t29 false h15 (zc t32 h15)) fun t33 h16 =>
    k2 (gd t29 false h16 (vBin .geq .other t31 t33 h16)) fun t34 h17 =>
    k2 (zD t29 (.bool true) t34 h17) fun t35 h18 =>
    k2 (some (t35, h18)) fun t36 h19 =>
    k2 (gd t36 false h19 (zI 2 1 t10 (.int .i64 1) h19)) fun t37 h20 =>
    k2 (gd t36 false h20 (zc t37 h20)) fun t38 h21 =>
    k2 (gd t36 false h21 (zd 0 t4 h21)) fun t39 h22 =>
    k2 (gd t36 false h22 (zc t39 h22)) fun t40 h23 =>
    k2 (gd t36 false h23 (vBin .geq .other t38 t40 h23)) fun t41 h24 =>
    k2 (zD t36 (.bool true) t41 h24) fun t42 h25 =>
    br t42
      (k2 (some ((.bool false), h25)) fun t6 h26 =>
    k2 (some ((.int .i64 2), h26)) fun t7 h27 =>
    some (.val (.tuple ⟨[(.bool false), t6, t7]⟩) h27))
      (k2 (some (t8, h25)) fun t43 h28 =>
    k2 (zj 2 t10 h28) fun t44 h29 =>
    k2 (zdN (.leaves [0, 1]) h29 t44 (.bool true) t43) fun _ h30 =>
    k2 (vBin .add .other t19 (.int .i64 1) h30) fun t45 h31 =>
    k2 (some (t45, h31)) fun t19_32 h33 =>
    lp X [p3, p4, p8, p17, p18, p19] zc6 (kBlk 0 (pK [p3, p4, p8] [p6, p7])) [t3, t4, t8, t17, t18, t19_32] h33))
      (some (.val (.tuple ⟨[(.bool true), t3, t4, t8]⟩) h1)) := by kernel_rfl
theorem l_bisA_0 (F : FuncId → Option zp) (t3 t4 t8 t17 t18 t19 : Value) (h : H) {r : Out} : let X := rI F; sh X zc6 (K_bisA_0 X) (setL [p3, p4, p8, p17, p18, p19] [t3, t4, t8, t17, t18, t19]) h = some r → lp X [p3, p4, p8, p17, p18, p19] zc6 (kBlk 0 (pK [p3, p4, p8] [p6, p7])) [t3, t4, t8, t17, t18, t19] h = some r := fun hv => zW (by decide) hv
theorem s_bisA (X : Rn) (t0 t1 t2 : Value) (h : H) : sh X c_bisA (pK [p3, p4, p8] [p6, p7]) (setL [p0, p1, p2] [t0, t1, t2]) h =
    k2 (some (zh h (zi t0))) fun t3 h1 =>
    k2 (some (zh h1 (zi t1))) fun t4 h2 =>
    k2 (some ((.bool false), h2)) fun t6 h3 =>
    k2 (some ((.int .i64 0), h3)) fun t7 h4 =>
    k2 (zj 3 t3 h4) fun t12 h5 =>
    k2 (zj 3 t4 h5) fun t13 h6 =>
    k2 (X.call (.func (.func n_N) #[] #[]) [t12, t13] h6) fun t14 h7 =>
    k2 (vUn .not t14 h7) fun t15 h8 =>
    br t15
      (k2 (some ((.bool false), h8)) fun t6 h9 =>
    k2 (some ((.int .i64 2), h9)) fun t7 h10 =>
    some (.val (.tuple ⟨[(.bool false), t6, t7]⟩) h10))
      (k2 (some (.map (some h8.next), h8.new (.map [] 0))) fun t16 h11 =>
    k2 (some (t16, h11)) fun t8 h12 =>
    k2 (some (t2, h12)) fun t17 h13 =>
    k2 (bltV h13 .len [t17]) fun t18 h14 =>
    k2 (some ((.int .i64 0), h14)) fun t19 h15 =>
    lp X [p3, p4, p8, p17, p18, p19] zc6 (kBlk 0 (pK [p3, p4, p8] [p6, p7])) [t3, t4, t8, t17, t18, t19] h15) := by kernel_rfl
theorem s_bisB (X : Rn) (t3 t4 t8 t11 : Value) (h : H) : sh X c_bisB (pK [p3, p4, p8] [p6, p7]) (setL [p3, p4, p8, p11] [t3, t4, t8, t11]) h =
    k2 (zj 3 t3 h) fun t52 h1 =>
    k2 (zj 3 t4 h1) fun t53 h2 =>
    k2 (zI 2 1 t11 (.int .i64 0) h2) fun t54 h3 =>
    k2 (zc t54 h3) fun t55 h4 =>
    k2 (zI 2 1 t11 (.int .i64 1) h4) fun t56 h5 =>
    k2 (zc t56 h5) fun t57 h6 =>
    k2 (some (t8, h6)) fun t58 h7 =>
    k2 (X.call (.func (.func n_j) #[] #[]) [t52, t53, t55, t57, t58, (.bool false)] h7) fun t59 h8 =>
    k2 (vUn .not t59 h8) fun t60 h9 =>
    k2 (some (t60, h9)) fun t61 h10 =>
    k2 (gd t61 false h10 (zj 3 t4 h10)) fun t62 h11 =>
    k2 (gd t61 false h11 (zj 3 t3 h11)) fun t63 h12 =>
    k2 (gd t61 false h12 (zI 2 1 t11 (.int .i64 1) h12)) fun t64 h13 =>
    k2 (gd t61 false h13 (zc t64 h13)) fun t65 h14 =>
    k2 (gd t61 false h14 (zI 2 1 t11 (.int .i64 0) h14)) fun t66 h15 =>
    k2 (gd t61 false h15 (zc t66 h15)) fun t67 h16 =>
    k2 (gd t61 false h16 (some (t8, h16))) fun t68 h17 =>
    k2 (gd t61 false h17 (X.call (.func (.func n_j) #[] #[]) [t62, t63, t65, t67, t68, (.bool true)] h17)) fun t69 h18 =>
    k2 (gd t61 false h18 (vUn .not t69 h18)) fun t70 h19 =>
    k2 (zD t61 (.bool true) t70 h19) fun t71 h20 =>
    br t71
      (k2 (some ((.bool false), h20)) fun t6 h21 =>
    k2 (some ((.int .i64 0), h21)) fun t7 h22 =>
    some (.val (.tuple ⟨[(.bool false), t6, t7]⟩) h22))
      (some (.val (.tuple ⟨[(.bool true), t3, t4, t8]⟩) h20)) := by kernel_rfl
end Go.Ideal.J
end
namespace Go.Ideal.J
open Go Go.Ideal
abbrev edL (a : Int × Int × Int) : List Value := [.int .i64 a.1, .int .i64 a.2.1, .int .i64 a.2.2]
abbrev edV (a : Int × Int × Int) : Value := .agg ⟨edL a⟩
def zcJ (a b : Int × Int × Int) : Bool := if a.1 ≠ b.1 then decide (a.1 < b.1) else if a.2.2 ≠ b.2.2 then decide (a.2.2 < b.2.2) else decide (a.2.1 < b.2.1)
def cmpE (a b : Int) : Int := if a < b then -1 else if b < a then 1 else 0
theorem less_ok (a b : Int × Int × Int) (h : H) : zbj F (fnV n_O) [edV a, edV b] h = some (.bool (zcJ a b), (h.new (.cells (edL a) 0)).new (.cells (edL b) 0)) := by
  refine zO F_O 2 (by decide) ?_
  rw [s_O]
  by_cases h1 : a.1 = b.1
  · by_cases h2 : a.2.2 = b.2.2
    · simp [zcJ, h1, h2]
    · simp [zcJ, h1, h2]
  · simp [zcJ, h1]
theorem isNaN_ok (a : Int) (h : H) : zbj F (fnV n_H) [.int .i64 a] h = some (.bool false, h) := by
  refine zO F_H 1 (by decide) ?_
  rw [s_H]
  simp
theorem zjo (a b : Int) (h : H) : zbj F (fnV n_E) [.int .i64 a, .int .i64 b] h = some (.int .i64 (cmpE a b), h) := by
  refine zO F_E 2 (by decide) ?_
  rw [s_E]
  by_cases h1 : a < b
  · simp [isNaN_ok, cmpE, h1]
  · by_cases h2 : b < a
    · simp [isNaN_ok, cmpE, h1, h2]
    · simp [isNaN_ok, cmpE, h1, h2]
def orV (x y z : Int) : Int := if x ≠ 0 then x else if y ≠ 0 then y else z
theorem or_ok (x y z : Int) (h : H) (b : Nat) (hg : h.get b = some (.cells [.int .i64 x, .int .i64 y, .int .i64 z] 0)) : zbj F (fnV n_x) [.slice (some ⟨b, 0, none⟩) 3 3] h = some (.int .i64 (orV x y z), h) := by
  refine zO F_x 1 (by decide) ?_
  rw [s_x]
  simp
  refine l_x_1 F _ _ _ _ _ ?_
  rw [s_x_1]
  by_cases hx : x = 0
  · simp [hg, hx]
    refine l_x_1 F _ _ _ _ _ ?_
    rw [s_x_1]
    by_cases hy : y = 0
    · simp [hg, hy]
      refine l_x_1 F _ _ _ _ _ ?_
      rw [s_x_1]
      by_cases hz : z = 0
      · simp [hg, hz]
        refine l_x_1 F _ _ _ _ _ ?_
        rw [s_x_1]
        simp [s_x_0, orV]
      · simp [hg, hz, orV]
    · simp [hg, hy, orV]
  · simp [hg, hx, orV]
def cmpT (a b : Int × Int × Int) : Int := orV (cmpE a.1 b.1) (cmpE a.2.2 b.2.2) (cmpE a.2.1 b.2.1)
theorem zdO (a b : Int × Int × Int) (h : H) : zbj F (fnV n_J) [edV a, edV b] h = some (.int .i64 (cmpT a b), ((h.new (.cells (edL a) 0)).new (.cells (edL b) 0)).new (.cells [.int .i64 (cmpE a.1 b.1), .int .i64 (cmpE a.2.2 b.2.2), .int .i64 (cmpE a.2.1 b.2.1)] 0)) := by
  refine zO F_J 2 (by decide) ?_
  rw [s_J]
  simp [zjo, zn, zo]
  rw [or_ok (cmpE a.1 b.1) (cmpE a.2.2 b.2.2) (cmpE a.2.1 b.2.1) _ _ (by simp)]
  simp [cmpT]
abbrev gL (st lb : Int) (sl : Value) : List Value := [.int .i64 st, .int .i64 lb, sl]
abbrev gV (st lb : Int) (sl : Value) : Value := .agg ⟨gL st lb sl⟩
abbrev Ed := Int × Int × Int
def badE (st lb : Int) (x : Ed) : Bool := decide (x.1 < 0) || decide (st ≤ x.1) || decide (x.2.1 < 0) || decide (st ≤ x.2.1) || decide (x.2.2 < 0) || decide (lb ≤ x.2.2)
def okAt (st lb : Int) (es : List Ed) (i : Nat) : Bool := match es[i]? with
  | some x => !badE st lb x && (decide (i = 0) || match es[i - 1]? with | some y => zcJ y x | none => true)
  | none => true
def ckN (st lb : Int) (es : List Ed) : Nat → Bool
  | 0 => true
  | n + 1 => okAt st lb es (es.length - (n + 1)) && ckN st lb es n
abbrev ptr (b : Nat) : Value := .pointer (some ⟨b, 0, none⟩)
def erk (b : Bool) : Value := .int .i64 (if b then 0 else 2)
theorem zdy (st lb : Int) (sl : Value) (es : List Ed) (hsz : es.length ≤ 9223372036854775806) (p : Nat) : ∀ (n i : Nat) (h : H), i + n = es.length → h.get p = some (.cells (gL st lb sl) 0) → p < h.next → Row h 3 sl (es.map edL) →
    ∃ h', lp (rI F) [p1, p3] ziU (kBlk 0 (kSeq (rI F) c_k_0 [] (K_k_0 (rI F)))) [ptr p, .int .i64 (i : Int)] h = some (.val (erk (ckN st lb es n)) h') ∧ Fr h h'
  | 0, i, h, hi, hp, hlt, hrow => by
    obtain ⟨base, c, rfl⟩ := hrow.len
    refine ⟨h, l_k_1 F _ _ _ ?_, .refl _⟩
    rw [ziN]
    have hi' : (es.length : Int) = i := by omega
    simp [hp, hi', s_k_0, ckN, erk]
  | n + 1, i, h, hi, hp, hlt, hrow => by
    have hil : i < es.length := by omega
    have hx : (es.map edL)[i]? = some (edL es[i]) := by simp [hil]
    obtain ⟨b, o, cs, e, hv, hb, hg, ht⟩ := hrow.index hx
    have hlen : (es.map edL).length = es.length := List.length_map _
    have n0 : ¬ h.next = b := by omega
    have n1 : ¬ h.next = p := by omega
    have n3 : ¬ h.next + 1 = p := by omega
    have n4 : ¬ h.next + 1 + 1 = p := by omega
    have hsub : es.length - (n + 1) = i := by omega
    have hil' : (i : Int) < es.length := by omega
    generalize hxe : es[i] = x at *
    obtain ⟨base, c, hsl⟩ := hrow.len
    have hbad : badE st lb x = true → ckN st lb es (n + 1) = false := by
      intro hb'
      simp [ckN, hsub, okAt, hil, hxe, hb']
    have key : ∀ r, sh (rI F) ziU (K_k_1 (rI F)) (setL [p1, p3] [ptr p, .int .i64 (i : Int)]) h = some r → lp (rI F) [p1, p3] ziU (kBlk 0 (kSeq (rI F) c_k_0 [] (K_k_0 (rI F)))) [ptr p, .int .i64 (i : Int)] h = some r := fun r hr => l_k_1 F _ _ _ hr
    have hp' := hp
    have hv' := hv
    subst hsl
    rw [hlen] at hp hv
    by_cases h1 : x.1 < 0
    · refine ⟨h.new (.cells (edL x) 0), key _ ?_, .new _ _⟩
      rw [ziN, hbad (by simp [badE, h1])]
      simp [hp, hil', hv, hg, ht, n0, n1, h1, erk]
    by_cases h2 : st ≤ x.1
    · refine ⟨h.new (.cells (edL x) 0), key _ ?_, .new _ _⟩
      rw [ziN, hbad (by simp [badE, h2])]
      simp [hp, hil', hv, hg, ht, n0, n1, h1, h2, erk]
    by_cases h3 : x.2.1 < 0
    · refine ⟨h.new (.cells (edL x) 0), key _ ?_, .new _ _⟩
      rw [ziN, hbad (by simp [badE, h3])]
      simp [hp, hil', hv, hg, ht, n0, n1, h1, h2, h3, erk]
    by_cases h4 : st ≤ x.2.1
    · refine ⟨h.new (.cells (edL x) 0), key _ ?_, .new _ _⟩
      rw [ziN, hbad (by simp [badE, h4])]
      simp [hp, hil', hv, hg, ht, n0, n1, h1, h2, h3, h4, erk]
    by_cases h5 : x.2.2 < 0
    · refine ⟨h.new (.cells (edL x) 0), key _ ?_, .new _ _⟩
      rw [ziN, hbad (by simp [badE, h5])]
      simp [hp, hil', hv, hg, ht, n0, n1, h1, h2, h3, h4, h5, erk]
    by_cases h6 : lb ≤ x.2.2
    · refine ⟨h.new (.cells (edL x) 0), key _ ?_, .new _ _⟩
      rw [ziN, hbad (by simp [badE, h6])]
      simp [hp, hil', hv, hg, ht, n0, n1, h1, h2, h3, h4, h5, h6, erk]
    have hgood : badE st lb x = false := by simp [badE, h1, h2, h3, h4, h5, h6]
    have hadd : (i : Int) + 1 = ((i + 1 : Nat) : Int) := by omega
    have w1 : -9223372036854775808 ≤ (i : Int) + 1 := by omega
    have w2 : (i : Int) + 1 ≤ 9223372036854775807 := by omega
    by_cases hi0 : i = 0
    · have hz : ¬ 0 < i := by omega
      obtain ⟨h', he, hf⟩ := zdy st lb _ es hsz p n (i + 1) (h.new (.cells (edL x) 0)) (by omega) (by simp [hp', n1]) (by simp; omega) (hrow.fr (.new _ _))
      refine ⟨h', key _ ?_, (Fr.new _ _).trans hf⟩
      have e0 : es[i]? = some x := by simp [hil, hxe]
      have hck : ckN st lb es (n + 1) = ckN st lb es n := by
        show (okAt st lb es (es.length - (n + 1)) && _) = _
        rw [hsub]; unfold okAt; rw [e0]; simp [hgood, hi0]
      rw [ziN, hck]
      simp [hp, hil', hv, hg, ht, n0, n1, h1, h2, h3, h4, h5, h6, hz, w1, w2]
      simpa using he
    · have hy : (es.map edL)[i - 1]? = some (edL es[i - 1]) := by simp [show i - 1 < es.length by omega]
      obtain ⟨b2, o2, cs2, e2, hv2, hb2, hg2, ht2⟩ := hrow.index hy
      have hye : es[i - 1]? = some es[i - 1] := by simp [show i - 1 < es.length by omega]
      generalize es[i - 1] = y at *
      have n2 : ¬ h.next = b2 := by omega
      have hpred : (i : Int) - 1 = ((i - 1 : Nat) : Int) := by omega
      have w3 : -9223372036854775808 ≤ (i : Int) - 1 := by omega
      have w4 : (i : Int) - 1 ≤ 9223372036854775807 := by omega
      have hsubv : ∀ h', vBin .sub .other (.int .i64 (i : Int)) (.int .i64 1) h' = some (.int .i64 ((i - 1 : Nat) : Int), h') := fun h' => by rw [zgh w3 w4, hpred]
      have hpos : 0 < i := by omega
      rw [hlen] at hv2
      have hck : ckN st lb es (n + 1) = (zcJ y x && ckN st lb es n) := by simp [ckN, hsub, okAt, hil, hxe, hgood, hi0, hye]
      by_cases hl : zcJ y x = true
      · obtain ⟨h', he, hf⟩ := zdy st lb _ es hsz p n (i + 1) (((h.new (.cells (edL x) 0)).new (.cells (edL y) 0)).new (.cells (edL x) 0)) (by omega) (by simp [hp', n1, n3, n4]) (by simp; omega) (hrow.fr (((Fr.new _ _).newR _).newR _))
        refine ⟨h', key _ ?_, (((Fr.new _ _).newR _).newR _).trans hf⟩
        rw [ziN, hck, hl, Bool.true_and]
        simp [hp, hil', hv, hg, ht, n0, n1, n2, h1, h2, h3, h4, h5, h6, hpos, w1, w2, hsubv, hv2, hg2, ht2, less_ok, hl]
        simpa using he
      · have hl : zcJ y x = false := by simpa using hl
        refine ⟨_, key _ ?_, ((Fr.new h (.cells (edL x) 0)).newR (.cells (edL y) 0)).newR (.cells (edL x) 0)⟩
        rw [ziN, hck, hl, Bool.false_and]
        simp [hp, hil', hv, hg, ht, n0, n1, n2, h1, h2, h3, h4, h5, h6, hpos, w1, w2, hsubv, hv2, hg2, ht2, less_ok, hl, erk]
end Go.Ideal.J
namespace Go.Ideal.J
open Go Go.Ideal
def chk (st lb : Int) (es : List Ed) : Bool := !(decide (st < 1) || decide (60 < st) || decide (lb < 1) || decide (41 < lb) || decide (400 < es.length)) && ckN st lb es es.length
theorem zdx (st lb : Int) (sl : Value) (es : List Ed) (h : H) (hrow : Row h 3 sl (es.map edL)) : ∃ h', zbj F (fnV n_k) [gV st lb sl] h = some (erk (chk st lb es), h') ∧ Fr h h' := by
  obtain ⟨base, c, hsl⟩ := hrow.len
  have hlen : (es.map edL).length = es.length := List.length_map _
  rw [hlen] at hsl
  by_cases h1 : st < 1
  · refine ⟨_, zO F_k 1 (by decide) ?_, .new h (.cells (gL st lb sl) 0)⟩
    rw [s_k]; subst hsl
    simp [h1, chk, erk]
  by_cases h2 : 60 < st
  · refine ⟨_, zO F_k 1 (by decide) ?_, .new h (.cells (gL st lb sl) 0)⟩
    rw [s_k]; subst hsl
    simp [h1, h2, chk, erk]
  by_cases h3 : lb < 1
  · refine ⟨_, zO F_k 1 (by decide) ?_, .new h (.cells (gL st lb sl) 0)⟩
    rw [s_k]; subst hsl
    simp [h1, h2, h3, chk, erk]
  by_cases h4 : 41 < lb
  · refine ⟨_, zO F_k 1 (by decide) ?_, .new h (.cells (gL st lb sl) 0)⟩
    rw [s_k]; subst hsl
    simp [h1, h2, h3, h4, chk, erk]
  by_cases h5 : 400 < es.length
  · refine ⟨_, zO F_k 1 (by decide) ?_, .new h (.cells (gL st lb sl) 0)⟩
    rw [s_k]; subst hsl
    have h5' : (400 : Int) < es.length := by omega
    simp [h1, h2, h3, h4, h5, h5', chk, erk]
  obtain ⟨h', he, hf⟩ := zdy st lb sl es (by omega) h.next es.length 0 (h.new (.cells (gL st lb sl) 0)) (by omega) (by simp) (by simp) (hrow.fr (.new _ _))
  refine ⟨h', zO F_k 1 (by decide) ?_, (Fr.new _ _).trans hf⟩
  rw [s_k]; subst hsl
  have h5' : ¬ (400 : Int) < es.length := by omega
  have hc : chk st lb es = ckN st lb es es.length := by simp [chk, h1, h2, h3, h4, h5]
  rw [hc]
  simp [h1, h2, h3, h4, h5, h5']
  simpa using he
end Go.Ideal.J
namespace Go.Ideal.J
open Go Go.Ideal
end Go.Ideal.J
namespace Go.Ideal.J
open Go Go.Ideal
theorem min3 (a b c : Int) (h : H) : bltV h .min [.int .i64 a, .int .i64 b, .int .i64 c] = some (.int .i64 (min a (min b c)), h) := by
  show (zbP false (.int .i64 a) [.int .i64 b, .int .i64 c]).map (·, h) = _
  by_cases h1 : b < a
  · by_cases h2 : c < b
    · simp [zbP, zcl, h1, h2]; omega
    · simp [zbP, zcl, h1, h2]; omega
  · by_cases h2 : c < a
    · simp [zbP, zcl, h1, h2]; omega
    · simp [zbP, zcl, h1, h2]; omega
theorem max2 (a b : Int) (h : H) : bltV h .max [.int .i64 a, .int .i64 b] = some (.int .i64 (max a b), h) := by
  show (zbP true (.int .i64 a) [.int .i64 b]).map (·, h) = _
  by_cases h1 : a < b
  · simp [zbP, zcl, h1]; omega
  · simp [zbP, zcl, h1]; omega
theorem cmpT_less (y x : Ed) : (0 ≤ cmpT y x) ↔ zcJ y x = false := by
  obtain ⟨y1, y2, y3⟩ := y
  obtain ⟨x1, x2, x3⟩ := x
  unfold cmpT zcJ orV cmpE
  dsimp only
  repeat' split
  all_goals (simp; try omega)
theorem zcL (st lb : Int) (sl : Value) (es : List Ed) (hsz : es.length ≤ 9223372036854775806) (p : Nat) : ∀ (n i : Nat) (h : H), i + n = es.length → h.get p = some (.cells (gL st lb sl) 0) → p < h.next → Row h 3 sl (es.map edL) →
    ∃ h', lp (rI F) [p1, p30, p31, p32] zfS (kBlk 0 (kSeq (rI F) zgn [] (K_o_0 (rI F)))) [ptr p, sl, .int .i64 (es.length : Int), .int .i64 (i : Int)] h = some (.val (erk (ckN st lb es n)) h') ∧ Fr h h'
  | 0, i, h, hi, hp, hlt, hrow => by
    refine ⟨h, l_o_1 F _ _ _ _ _ ?_, .refl _⟩
    rw [s_o_1]
    have hi' : (es.length : Int) = i := by omega
    simp [hi', s_o_0, ckN, erk]
  | n + 1, i, h, hi, hp, hlt, hrow => by
    have hil : i < es.length := by omega
    have hx : (es.map edL)[i]? = some (edL es[i]) := by simp [hil]
    obtain ⟨b, o, cs, e, hv, hb, hg, ht⟩ := hrow.index hx
    have hlen : (es.map edL).length = es.length := List.length_map _
    have n0 : ¬ h.next = b := by omega
    have n1 : ¬ h.next = p := by omega
    have n3 : ¬ h.next + 1 = p := by omega
    have n4 : ¬ h.next + 1 + 1 = p := by omega
    have n5 : ¬ h.next + 1 + 1 + 1 = p := by omega
    have hsub : es.length - (n + 1) = i := by omega
    have hil' : (i : Int) < es.length := by omega
    have e0 : es[i]? = some es[i] := by simp [hil]
    generalize es[i] = x at *
    obtain ⟨base, c, hsl⟩ := hrow.len
    rw [hlen] at hsl
    have hbad : badE st lb x = true → ckN st lb es (n + 1) = false := by
      intro hb'
      show (okAt st lb es (es.length - (n + 1)) && _) = _
      rw [hsub]; unfold okAt; rw [e0]; simp [hb']
    have key : ∀ r, sh (rI F) zfS (K_o_1 (rI F)) (setL [p1, p30, p31, p32] [ptr p, sl, .int .i64 (es.length : Int), .int .i64 (i : Int)]) h = some r → lp (rI F) [p1, p30, p31, p32] zfS (kBlk 0 (kSeq (rI F) zgn [] (K_o_0 (rI F)))) [ptr p, sl, .int .i64 (es.length : Int), .int .i64 (i : Int)] h = some r := fun r hr => l_o_1 F _ _ _ _ _ hr
    have hp' := hp
    have hslc := hsl
    subst hsl
    by_cases h1 : min x.1 (min x.2.1 x.2.2) < 0
    · refine ⟨h.new (.cells (edL x) 0), key _ ?_, .new _ _⟩
      rw [s_o_1, hbad (by simp only [badE, Bool.or_eq_true, decide_eq_true_eq]; omega)]
      simp [hp, hil, hv, hg, ht, n0, n1, min3, max2, h1, erk]
    by_cases h2 : st ≤ max x.1 x.2.1
    · refine ⟨h.new (.cells (edL x) 0), key _ ?_, .new _ _⟩
      rw [s_o_1, hbad (by simp only [badE, Bool.or_eq_true, decide_eq_true_eq]; omega)]
      simp [hp, hil, hv, hg, ht, n0, n1, min3, max2, h1, h2, erk]
    by_cases h3 : lb ≤ x.2.2
    · refine ⟨h.new (.cells (edL x) 0), key _ ?_, .new _ _⟩
      rw [s_o_1, hbad (by simp only [badE, Bool.or_eq_true, decide_eq_true_eq]; omega)]
      simp [hp, hil, hv, hg, ht, n0, n1, min3, max2, h1, h2, h3, erk]
    have hgood : badE st lb x = false := by
      rw [Bool.eq_false_iff]; intro hb'; simp only [badE, Bool.or_eq_true, decide_eq_true_eq] at hb'; omega
    have w1 : -9223372036854775808 ≤ (i : Int) + 1 := by omega
    have w2 : (i : Int) + 1 ≤ 9223372036854775807 := by omega
    by_cases hi0 : i = 0
    · have hz : ¬ 0 < i := by omega
      obtain ⟨h', he, hf⟩ := zcL st lb _ es hsz p n (i + 1) (h.new (.cells (edL x) 0)) (by omega) (by simp [hp', n1]) (by simp; omega) (hrow.fr (.new _ _))
      refine ⟨h', key _ ?_, (Fr.new _ _).trans hf⟩
      have hck : ckN st lb es (n + 1) = ckN st lb es n := by
        show (okAt st lb es (es.length - (n + 1)) && _) = _
        rw [hsub]; unfold okAt; rw [e0]; simp [hgood, hi0]
      rw [s_o_1, hck]
      simp [hp, hil, hv, hg, ht, n0, n1, min3, max2, h1, h2, h3, hz, w1, w2]
      simpa using he
    · have hy : (es.map edL)[i - 1]? = some (edL es[i - 1]) := by simp [show i - 1 < es.length by omega]
      obtain ⟨b2, o2, cs2, e2, hv2, hb2, hg2, ht2⟩ := hrow.index hy
      have hye : es[i - 1]? = some es[i - 1] := by simp [show i - 1 < es.length by omega]
      generalize es[i - 1] = y at *
      have n2 : ¬ h.next = b2 := by omega
      have hpred : (i : Int) - 1 = ((i - 1 : Nat) : Int) := by omega
      have w3 : -9223372036854775808 ≤ (i : Int) - 1 := by omega
      have w4 : (i : Int) - 1 ≤ 9223372036854775807 := by omega
      have hsubv : ∀ h', vBin .sub .other (.int .i64 (i : Int)) (.int .i64 1) h' = some (.int .i64 ((i - 1 : Nat) : Int), h') := fun h' => by rw [zgh w3 w4, hpred]
      have hpos : 0 < i := by omega
      have hck : ckN st lb es (n + 1) = (zcJ y x && ckN st lb es n) := by
        show (okAt st lb es (es.length - (n + 1)) && _) = _
        rw [hsub]; unfold okAt; rw [e0, hye]; simp [hgood, hi0]
      by_cases hl : zcJ y x = true
      · have hc : ¬ 0 ≤ cmpT y x := fun hc => by rw [(cmpT_less y x).1 hc] at hl; cases hl
        obtain ⟨h', he, hf⟩ := zcL st lb _ es hsz p n (i + 1) ((((h.new (.cells (edL x) 0)).new (.cells (edL y) 0)).new (.cells (edL x) 0)).new (.cells [.int .i64 (cmpE y.1 x.1), .int .i64 (cmpE y.2.2 x.2.2), .int .i64 (cmpE y.2.1 x.2.1)] 0)) (by omega) (by simp [hp', n1, n3, n4, n5]) (by simp; omega) (hrow.fr ((((Fr.new _ _).newR _).newR _).newR _))
        refine ⟨h', key _ ?_, ((((Fr.new _ _).newR _).newR _).newR _).trans hf⟩
        rw [s_o_1, hck, hl, Bool.true_and]
        simp [hp, hil, hv, hg, ht, n0, n1, n2, min3, max2, h1, h2, h3, hpos, w1, w2, hsubv, hv2, hg2, ht2, zdO, hc]
        simpa using he
      · have hl : zcJ y x = false := by simpa using hl
        have hc : 0 ≤ cmpT y x := (cmpT_less y x).2 hl
        refine ⟨_, key _ ?_, (((Fr.new h (.cells (edL x) 0)).newR (.cells (edL y) 0)).newR (.cells (edL x) 0)).newR (.cells [.int .i64 (cmpE y.1 x.1), .int .i64 (cmpE y.2.2 x.2.2), .int .i64 (cmpE y.2.1 x.2.1)] 0)⟩
        rw [s_o_1, hck, hl, Bool.false_and]
        simp [hp, hil, hv, hg, ht, n0, n1, n2, min3, max2, h1, h2, h3, hpos, w1, w2, hsubv, hv2, hg2, ht2, zdO, hc, erk]
theorem zfI (st lb : Int) (sl : Value) (es : List Ed) (h : H) (hrow : Row h 3 sl (es.map edL)) : ∃ h', zbj F (fnV n_o) [gV st lb sl] h = some (erk (chk st lb es), h') ∧ Fr h h' := by
  obtain ⟨base, c, hsl⟩ := hrow.len
  have hlen : (es.map edL).length = es.length := List.length_map _
  rw [hlen] at hsl
  by_cases h1 : st < 1
  · refine ⟨_, zO F_o 1 (by decide) ?_, .new h (.cells (gL st lb sl) 0)⟩
    rw [s_o]; subst hsl
    simp [h1, chk, erk]
  by_cases h2 : 60 < st
  · refine ⟨_, zO F_o 1 (by decide) ?_, .new h (.cells (gL st lb sl) 0)⟩
    rw [s_o]; subst hsl
    simp [h1, h2, chk, erk]
  by_cases h3 : lb < 1
  · refine ⟨_, zO F_o 1 (by decide) ?_, .new h (.cells (gL st lb sl) 0)⟩
    rw [s_o]; subst hsl
    simp [h1, h2, h3, chk, erk]
  by_cases h4 : 41 < lb
  · refine ⟨_, zO F_o 1 (by decide) ?_, .new h (.cells (gL st lb sl) 0)⟩
    rw [s_o]; subst hsl
    simp [h1, h2, h3, h4, chk, erk]
  by_cases h5 : 400 < es.length
  · refine ⟨_, zO F_o 1 (by decide) ?_, .new h (.cells (gL st lb sl) 0)⟩
    rw [s_o]; subst hsl
    have h5' : (400 : Int) < es.length := by omega
    simp [h1, h2, h3, h4, h5, h5', chk, erk]
  obtain ⟨h', he, hf⟩ := zcL st lb sl es (by omega) h.next es.length 0 (h.new (.cells (gL st lb sl) 0)) (by omega) (by simp) (by simp) (hrow.fr (.new _ _))
  refine ⟨h', zO F_o 1 (by decide) ?_, (Fr.new _ _).trans hf⟩
  rw [s_o]; subst hsl
  have h5' : ¬ (400 : Int) < es.length := by omega
  have hc : chk st lb es = ckN st lb es es.length := by simp [chk, h1, h2, h3, h4, h5]
  rw [hc]
  simp [h1, h2, h3, h4, h5, h5']
  simpa using he
end Go.Ideal.J
namespace Go.Ideal.J
open Go Go.Ideal
abbrev boolsL (bs : List Bool) : List Value := bs.map .bool
abbrev slF (q n : Nat) : Value := .slice (some ⟨q, 0, none⟩) n n
def hit (x : Ed) (bs : List Bool) : Bool := decide (x.2.2 = 0) && (bs[x.1.toNat]?.getD false && !(bs[x.2.1.toNat]?.getD false))
def inB (st : Int) (es : List Ed) : Prop := ∀ x ∈ es, 0 ≤ x.1 ∧ x.1 < st ∧ 0 ≤ x.2.1 ∧ x.2.1 < st
end Go.Ideal.J
namespace Go.Ideal.J
open Go Go.Ideal
end Go.Ideal.J
namespace Go.Ideal.J
open Go Go.Ideal
inductive Sil (es : List Ed) (a : Nat) : Nat → Prop
  | refl : Sil es a a
  | step {x : Ed} (h : Sil es a x.1.toNat) (hx : x ∈ es) (h0 : x.2.2 = 0) : Sil es a x.2.1.toNat
end Go.Ideal.J
set_option maxRecDepth 10000
namespace Go.Ideal.J
open Go Go.Ideal
theorem conv_u64 {a : Int} {h : H} (h0 : 0 ≤ a) (h1 : a ≤ 9223372036854775807) : vConv .u64 (.int .i64 a) h = some (.int .u64 a, h) := by
  show some (Value.int .u64 (IntKind.wrap .u64 a), h) = _
  have : IntKind.wrap .u64 a = a := by
    unfold IntKind.wrap
    show (if (false && decide (a % (2 ^ 64 : Int) ≥ (2 ^ 63 : Int))) = true then a % (2 ^ 64 : Int) - (2 ^ 64 : Int) else a % (2 ^ 64 : Int)) = a
    simp; omega
  rw [this]
theorem conv_i64 {k : IntKind} {a : Int} {h : H} (h0 : -9223372036854775808 ≤ a) (h1 : a ≤ 9223372036854775807) : vConv .i64 (.int k a) h = some (.int .i64 a, h) := by
  show some (Value.int .i64 (IntKind.wrap .i64 a), h) = _
  have := wrapF_in h0 h1
  rw [wrapF_eq] at this; rw [this]
theorem shr1 {ek : EK} {k : IntKind} {a : Int} {h : H} : vBin .shr ek (.int k a) (.int .u64 1) h = some (.int k (a / 2), h) := by
  have : (2 : Int) ^ (min (1 : Int).toNat k.bits) = 2 := by cases k <;> rfl
  show (if ltI 1 0 then none else some (Value.int k (a.fdiv (2 ^ (min (1 : Int).toNat k.bits))))).map (·, h) = _
  rw [this]
  have h2 : ltI 1 0 = false := rfl
  rw [h2, Int.fdiv_eq_ediv_of_nonneg _ (by omega)]; rfl
theorem zd0 (x : Ed) (a : Int) (h : H) : zbj F (fnV n_U) [edV x, .int .i64 a] h = some (.int .i64 (cmpE x.1 a), h.new (.cells (edL x) 0)) := by
  refine zO F_U 2 (by decide) ?_
  rw [s_U]
  simp [zjo]
theorem cmpE_neg (a b : Int) : cmpE a b < 0 ↔ a < b := by unfold cmpE; split <;> (try split) <;> omega
structure Cut (es : List Ed) (a : Int) (at_ : Nat) : Prop where
  le : at_ ≤ es.length
  lo : ∀ k x, es[k]? = some x → k < at_ → x.1 < a
  hi : ∀ k x, es[k]? = some x → at_ ≤ k → a ≤ x.1
def IsAt (n : Nat) (v : Value) : Prop := ∃ b : Bool, v = .tuple #[.int .i64 (n : Int), .bool b]
theorem bs_loop (es : List Ed) (hsz : es.length ≤ 1000) (a : Int) (at_ : Nat) (hc : Cut es a at_) (sl : Value) (h0 : H) (hrow0 : Row h0 3 sl (es.map edL)) : ∀ (n i j : Nat) (h : H), j - i = n → i ≤ at_ → at_ ≤ j → j ≤ es.length → Fr h0 h →
    OkV (sh (rI F) zgp (K_b_1 (rI F)) (setL [p0, p1, p2, p8, p9, p10] [sl, .int .i64 a, fnV n_U, .int .i64 (es.length : Int), .int .i64 (i : Int), .int .i64 (j : Int)]) h)
      fun v h' => IsAt at_ v ∧ Fr h0 h' := by
  intro n
  induction n using Nat.strongRecOn with
  | _ n ih =>
    intro i j h hn hi hj hl hf
    rw [s_b_1]
    by_cases hij : i < j
    · obtain ⟨m, em⟩ : ∃ m, m = (i + j) / 2 := ⟨_, rfl⟩
      have hm : m < es.length := by omega
      have hx : (es.map edL)[m]? = some (edL es[m]) := by simp [hm]
      obtain ⟨b, o, cs, e, hv, hb, hg, ht⟩ := (hrow0.fr hf).index hx
      have hlo := hc.lo m _ (List.getElem?_eq_getElem hm)
      have hhi := hc.hi m _ (List.getElem?_eq_getElem hm)
      have e1 : ((i : Int) + (j : Int)) / 2 = (m : Int) := by omega
      generalize es[m] = x at *
      by_cases hxa : x.1 < a
      · have hxa' : cmpE x.1 a < 0 := (cmpE_neg _ _).2 hxa
        have := ih (j - (m + 1)) (by omega) (m + 1) j (h.new (.cells (edL x) 0)) rfl (by have := fun h => hhi h; omega) hj hl (hf.newR _)
        refine OkV.eq (this.lp (l_b_1 F _ _ _ _ _ _ _)) ?_
        simp (disch := omega) [hij, conv_u64, conv_i64, shr1, e1, hv, hg, ht, zd0, hxa', zH]
      · have hxa' : ¬ cmpE x.1 a < 0 := fun h => hxa ((cmpE_neg _ _).1 h)
        have := ih (m - i) (by omega) i m (h.new (.cells (edL x) 0)) rfl hi (by have := fun h => hlo h; omega) (by omega) (hf.newR _)
        refine OkV.eq (this.lp (l_b_1 F _ _ _ _ _ _ _)) ?_
        simp (disch := omega) [hij, conv_u64, conv_i64, shr1, e1, hv, hg, ht, zd0, hxa', zH]
    · have e : at_ = i := by omega
      subst e
      have e2 : j = at_ := by omega
      subst e2
      simp (disch := omega) [hij]
      rw [s_b_0]
      by_cases hlt : j < es.length
      · have hx : (es.map edL)[j]? = some (edL es[j]) := by simp [hlt]
        obtain ⟨b, o, cs, e, hv, hb, hg, ht⟩ := (hrow0.fr hf).index hx
        refine OkV.eq (OkV.val (v := .tuple #[.int .i64 (j : Int), .bool (decide (cmpE es[j].1 a = 0))]) (h := h.new (.cells (edL es[j]) 0)) ⟨⟨_, rfl⟩, hf.newR _⟩) ?_
        simp (disch := omega) [hlt, hv, hg, ht, zd0]
      · refine OkV.eq (OkV.val (v := .tuple #[.int .i64 (j : Int), .bool false]) (h := h) ⟨⟨_, rfl⟩, hf⟩) ?_
        simp (disch := omega) [hlt]
end Go.Ideal.J
namespace Go.Ideal.J
open Go Go.Ideal
theorem bs_ok (es : List Ed) (hsz : es.length ≤ 1000) (a : Int) (at_ : Nat) (hc : Cut es a at_) (sl : Value) (h : H) (hrow : Row h 3 sl (es.map edL)) :
    Ret F (fnV n_b) [sl, .int .i64 a, fnV n_U] h fun v h' => IsAt at_ v ∧ Fr h h' := by
  refine Ret.fn F_b 3 (by decide) ?_
  rw [s_b]
  have := bs_loop es hsz a at_ hc sl h hrow es.length 0 es.length h (by omega) (by omega) hc.le (by omega) (.refl _)
  obtain ⟨base, c, hsl⟩ := hrow.len
  rw [List.length_map] at hsl
  refine OkV.eq (this.lp (l_b_1 F _ _ _ _ _ _ _)) ?_
  subst hsl
  simp
end Go.Ideal.J
namespace Go.Ideal.J
open Go Go.Ideal
def outs (es : List Ed) (a : Int) : List Ed := es.filter fun x => decide (x.1 = a)
def zZ (es : List Ed) : Prop := es.Pairwise fun x y => x.1 ≤ y.1
def below (es : List Ed) (a : Int) : Nat := (es.filter fun x => decide (x.1 < a)).length
theorem zcZ (a : Int) : ∀ {es : List Ed}, zZ es → es = (es.filter fun x => decide (x.1 < a)) ++ outs es a ++ es.filter fun x => decide (a < x.1)
  | [], _ => rfl
  | x :: es, h => by
    obtain ⟨h1, h2⟩ := List.pairwise_cons.1 h
    have ih := zcZ a h2
    rcases Int.lt_trichotomy x.1 a with c | c | c
    · have e1 : ¬ x.1 = a := by omega
      have e2 : ¬ a < x.1 := by omega
      simp only [outs, List.filter_cons, c, e1, e2, decide_true, decide_false, if_true, Bool.false_eq_true, if_false, List.cons_append] at ih ⊢
      rw [← ih]
    · have e1 : ¬ x.1 < a := by omega
      have e2 : ¬ a < x.1 := by omega
      have z : (es.filter fun x => decide (x.1 < a)) = [] := by
        rw [List.filter_eq_nil_iff]; intro y hy; have := h1 y hy; simp; omega
      simp only [outs, List.filter_cons, c, decide_true, if_true] at ih ⊢
      rw [z, List.nil_append] at ih
      simp only [Int.lt_irrefl, decide_false, Bool.false_eq_true, if_false, z, List.nil_append, List.cons_append]
      rw [← ih]
    · have e1 : ¬ x.1 < a := by omega
      have e2 : ¬ x.1 = a := by omega
      have z : (es.filter fun x => decide (x.1 < a)) = [] := by
        rw [List.filter_eq_nil_iff]; intro y hy; have := h1 y hy; simp; omega
      have z2 : (es.filter fun x => decide (x.1 = a)) = [] := by
        rw [List.filter_eq_nil_iff]; intro y hy; have := h1 y hy; simp; omega
      have z3 : (es.filter fun x => decide (a < x.1)) = es := by
        rw [List.filter_eq_self]; intro y hy; have := h1 y hy; simp; omega
      simp only [outs, List.filter_cons, e1, e2, c, decide_true, decide_false, if_true, Bool.false_eq_true, if_false, z, z2, z3, List.nil_append]
theorem cut_of {es : List Ed} (h : zZ es) (a : Int) : Cut es a (below es a) := by
  refine ⟨List.length_filter_le .., fun k x hk hl => ?_, fun k x hk hl => ?_⟩
  · rw [zcZ a h, List.append_assoc, List.getElem?_append_left hl] at hk
    simpa using (List.mem_filter.1 (List.mem_of_getElem? hk)).2
  · rw [zcZ a h, List.append_assoc, List.getElem?_append_right hl] at hk
    have := List.mem_of_getElem? hk
    rcases List.mem_append.1 this with hm | hm
    · have := (List.mem_filter.1 hm).2; simp at this; omega
    · have := (List.mem_filter.1 hm).2; simp at this; omega
theorem zjn {es : List Ed} (h : zZ es) (a : Int) : es.drop (below es a) = outs es a ++ es.filter fun x => decide (a < x.1) := by
  have e := zcZ a h
  have : es.drop (below es a) = ((es.filter fun x => decide (x.1 < a)) ++ (outs es a ++ es.filter fun x => decide (a < x.1))).drop (es.filter fun x => decide (x.1 < a)).length := by
    rw [← List.append_assoc, ← e]; rfl
  rw [this, List.drop_left]
def YOk (F : FuncId → Option zp) (y : Value) (l : List Value) (M : Nat → Prop) (n0 : Nat) (Inv : Nat → H → Prop) (Stop : H → Prop) : Prop :=
  ∀ i x h, l[i]? = some x → Inv i h → n0 ≤ h.next → Ret F y [x] h fun v h' => FrD M h h' ∧ ((v = .bool true ∧ Inv (i + 1) h') ∨ (v = .bool false ∧ Stop h'))
theorem steps_loop (l r : List Ed) (a : Int) (hl : ∀ x ∈ l, x.1 = a) (hr : ∀ x ∈ r, x.1 ≠ a) (hsz : (l ++ r).length ≤ 1000) (y : Value) (sl' : Value) (pf : Nat) (h0 : H) {M : Nat → Prop} (hrow : Row h0 3 sl' ((l ++ r).map edL))
    (hm1 : ¬ M pf) (hm2 : ∀ b o n c, sl' = .slice (some ⟨b, o, none⟩) n c → ¬ M b) (hpf : pf < h0.next) (hgf : h0.get pf = some (.cells [.int .i64 a] 0)) (Inv : Nat → H → Prop) (Stop : H → Prop) (n0 : Nat) (hn0 : n0 ≤ h0.next)
    (hst : ∀ i h1 h2, Inv i h1 → Fr h1 h2 → Inv i h2) (hy : YOk F y (l.map edV) M n0 Inv Stop) {P : Value → H → Prop} (hP : ∀ h', FrD M h0 h' → (Inv l.length h' ∨ Stop h') → P (.tuple #[]) h') :
    ∀ (n i : Nat) (h : H), i + n = l.length → Inv i h → FrD M h0 h →
    OkV (sh (rI F) zic (K_C_0 (rI F)) (setL [p0, p2, p18, p19, p20] [y, ptr pf, sl', .int .i64 ((l ++ r).length : Int), .int .i64 (i : Int)]) h) P := by
  intro n
  obtain ⟨N, hN⟩ : ∃ N, (l ++ r).length = N := ⟨_, rfl⟩
  rw [hN] at hsz ⊢
  induction n with
  | zero =>
    intro i h hi hI hf
    rw [s_C_0]
    have hi : i = l.length := by omega
    subst hi
    by_cases hlt : l.length < N
    · have hlt' : l.length < (l ++ r).length := by omega
      have h2 : (l ++ r)[l.length]? = some (l ++ r)[l.length] := List.getElem?_eq_getElem hlt'
      have hx : ((l ++ r).map edL)[l.length]? = some (edL (l ++ r)[l.length]) := by rw [List.getElem?_map, h2]; rfl
      rw [List.getElem?_append_right (Nat.le_refl _)] at h2
      have hne := hr _ (List.mem_of_getElem? h2)
      obtain ⟨b, o, cs, e, hv, hb, hg, ht⟩ := (hrow.frD hf hm2).index hx
      generalize (l ++ r)[l.length] = x at *
      have hpf' : h.get pf = some (.cells [.int .i64 a] 0) := (hf.get _ hpf hm1).trans hgf
      have hpl : pf < h.next := Nat.lt_of_lt_of_le hpf hf.next
      refine OkV.eq (OkV.val (hP (h.new (.cells (edL x) 0)) (hf.new _) (.inl (hst _ _ _ hI (.new _ _))))) ?_
      simp (disch := omega) [hlt, hv, hg, ht, hpf', hne, zg]
    · refine OkV.eq (OkV.val (hP h hf (.inl hI))) ?_
      simp (disch := omega) [hlt, zg]
  | succ n ih =>
    intro i h hi hI hf
    rw [s_C_0]
    have hil : i < l.length := by omega
    have hlt : i < N := by rw [← hN, List.length_append]; omega
    have hx : ((l ++ r).map edL)[i]? = some (edL l[i]) := by
      rw [List.getElem?_map, List.getElem?_append_left hil, List.getElem?_eq_getElem hil]; rfl
    have hmem : l[i].1 = a := hl _ (List.getElem_mem hil)
    have hxv : (l.map edV)[i]? = some (edV l[i]) := by simp [hil]
    obtain ⟨b, o, cs, e, hv, hb, hg, ht⟩ := (hrow.frD hf hm2).index hx
    generalize l[i] = x at *
    have hpf' : h.get pf = some (.cells [.int .i64 a] 0) := (hf.get _ hpf hm1).trans hgf
    have hpl : pf < h.next := Nat.lt_of_lt_of_le hpf hf.next
    have hc := hy i _ (h.new (.cells (edL x) 0)) hxv (hst _ _ _ hI (.new _ _)) (by have := hf.next; simp; omega)
    obtain ⟨x1, x2, x3⟩ := x
    obtain rfl : x1 = a := hmem
    simp (disch := omega) [hlt, hv, hg, ht, hpf']
    refine OkV.call hc ?_
    rintro v h' ⟨hf', hv'⟩
    rcases hv' with ⟨rfl, hI'⟩ | ⟨rfl, hS⟩
    · have := ih (i + 1) h' (by omega) hI' ((hf.new _).trans (hf'.mono fun _ _ h => h))
      refine OkV.eq (this.lp (l_C_0 F _ _ _ _ _ _)) ?_
      simp (disch := omega) [zH]
    · refine OkV.eq (OkV.val (hP h' ((hf.new _).trans hf') (.inr hS))) ?_
      simp [zg]
end Go.Ideal.J
namespace Go.Ideal.J
open Go Go.Ideal
abbrev stepsV (pg pf : Nat) : Value := .func (.func n_C) ⟨[]⟩ ⟨[ptr pg, ptr pf]⟩
theorem steps_ok (g : Value) (a : Value) (h : H) : zbj F (fnV n_D) [g, a] h = some (stepsV h.next (h.next + 1), (h.new (.cells (zi g) 0)).new (.cells (zi a) 0)) := by
  refine zO F_D 2 (by decide) ?_
  rw [s_D]
  simp
theorem zhp (es : List Ed) (hs : zZ es) (hsz : es.length ≤ 1000) (a st lb : Int) (y : Value) (sl : Value) (pg pf : Nat) (h0 : H) {M : Nat → Prop} (hrow : Row h0 3 sl (es.map edL))
    (hm0 : ¬ M pg) (hm1 : ¬ M pf) (hm2 : ∀ b o n c, sl = .slice (some ⟨b, o, none⟩) n c → ¬ M b) (hpg : pg < h0.next) (hgg : h0.get pg = some (.cells (gL st lb sl) 0)) (hpf : pf < h0.next) (hgf : h0.get pf = some (.cells [.int .i64 a] 0)) (Inv : Nat → H → Prop) (Stop : H → Prop) (n0 : Nat) (hn0 : n0 ≤ h0.next)
    (hst : ∀ i h1 h2, Inv i h1 → Fr h1 h2 → Inv i h2) (hy : YOk F y ((outs es a).map edV) M n0 Inv Stop) (hI : Inv 0 h0) {P : Value → H → Prop} (hP : ∀ h', FrD M h0 h' → (Inv (outs es a).length h' ∨ Stop h') → P (.tuple #[]) h') :
    Ret F (stepsV pg pf) [y] h0 P := by
  obtain ⟨base0, c0, hsl0⟩ := hrow.lenM
  subst hsl0
  refine Ret.clo F_C 3 (by decide) ?_
  show OkV (zl (rI F) 3 f_C [y, ptr pg, ptr pf] h0) P
  rw [s_C]
  simp (disch := omega) [hgg, hgf]
  refine OkV.call (bs_ok es hsz a (below es a) (cut_of hs a) _ h0 hrow) ?_
  rintro v h' ⟨⟨b, rfl⟩, hf⟩
  have hle : below es a ≤ (es.map edL).length := by rw [List.length_map]; exact (cut_of hs a).le
  have hgg' : h'.get pg = some (.cells (gL st lb (.slice base0 es.length c0)) 0) := (hf.get _ hpg).trans hgg
  have hgf' : h'.get pf = some (.cells [.int .i64 a] 0) := (hf.get _ hpf).trans hgf
  obtain ⟨sl', hsl, hrow', hfrom⟩ := (hrow.fr hf).drop hle
  rw [← List.map_drop, zjn hs a] at hrow'
  have hsub : ∀ b o n c, sl' = .slice (some ⟨b, o, none⟩) n c → ¬ M b := by
    intro b o n c e
    obtain ⟨_, _, _, e1⟩ := hfrom _ _ _ _ e
    exact hm2 _ _ _ _ e1
  obtain ⟨base, cc, hsl2⟩ := hrow'.lenM
  have := steps_loop (outs es a) (es.filter fun x => decide (a < x.1)) a (fun x hx => by simpa using (List.mem_filter.1 hx).2) (fun x hx => by have := (List.mem_filter.1 hx).2; simp at this; omega) (by rw [← zjn hs a, List.length_drop]; omega) y sl' pf h' hrow' hm1 hsub (Nat.lt_of_lt_of_le hpf hf.next) hgf' Inv Stop n0 (Nat.le_trans hn0 hf.next) hst hy
    (P := P) (fun h'' hf2 hv => hP h'' ⟨Nat.le_trans hf.next hf2.next, fun i hi hm => (hf2.get i (Nat.lt_of_lt_of_le hi hf.next) hm).trans (hf.get i hi)⟩ hv) (outs es a).length 0 h' (by omega) (hst _ _ _ hI hf) (.refl _ _)
  refine OkV.eq (this.lp (l_C_0 F _ _ _ _ _ _)) ?_
  have hsl3 := hsl h' (Nat.le_refl _) (fun _ _ => rfl)
  subst hsl2
  simp (disch := omega) [hgg', hsl3]
end Go.Ideal.J
namespace Go.Ideal.J
open Go Go.Ideal
abbrev leadsV (pg pf pl : Nat) : Value := .func (.func n_G) ⟨[]⟩ ⟨[ptr pg, ptr pf, ptr pl]⟩
theorem leads_ok (g a l : Value) (h : H) : zbj F (fnV n_B) [g, a, l] h = some (leadsV h.next (h.next + 1) (h.next + 1 + 1), ((h.new (.cells (zi g) 0)).new (.cells (zi a) 0)).new (.cells (zi l) 0)) := by
  refine zO F_B 3 (by decide) ?_
  rw [s_B]
  simp
def tos (es : List Ed) (a lab : Int) : List Int := ((outs es a).filter fun x => decide (x.2.2 = lab)).map fun x => x.2.1
def cnt (l : List Ed) (lab : Int) (i : Nat) : Nat := ((l.take i).filter fun x => decide (x.2.2 = lab)).length
theorem cnt_succ {l : List Ed} {lab : Int} {i : Nat} {x : Ed} (h : l[i]? = some x) : cnt l lab (i + 1) = cnt l lab i + if x.2.2 = lab then 1 else 0 := by
  unfold cnt
  rw [List.take_add_one, h]
  simp only [Option.toList_some, List.filter_append, List.length_append]
  congr 1
  by_cases e : x.2.2 = lab <;> simp [e]
theorem cnt_get {l : List Ed} {lab : Int} {i : Nat} {x : Ed} (h : l[i]? = some x) (e : x.2.2 = lab) : (l.filter fun x => decide (x.2.2 = lab))[cnt l lab i]? = some x := by
  have hl : i < l.length := by
    rcases Nat.lt_or_ge i l.length with h' | h'
    · exact h'
    · rw [List.getElem?_eq_none h'] at h; cases h
  have hd : l.drop i = x :: l.drop (i + 1) := by
    rw [List.drop_eq_getElem_cons hl]
    rw [List.getElem?_eq_getElem hl] at h; cases h; rfl
  have : l.filter (fun x => decide (x.2.2 = lab)) = (l.take i).filter (fun x => decide (x.2.2 = lab)) ++ (l.drop i).filter (fun x => decide (x.2.2 = lab)) := by
    rw [← List.filter_append, List.take_append_drop]
  rw [this, hd]
  unfold cnt
  rw [List.getElem?_append_right (Nat.le_refl _)]
  simp [e]
theorem leads_run (es : List Ed) (hs : zZ es) (hsz : es.length ≤ 1000) (a lab st lb : Int) (y : Value) (hyc : zX y = true) (hyi : zbn y = true) (hyl : zi y = [y]) (sl : Value) (pg pf pl : Nat) (h0 : H) {M : Nat → Prop} (hM : ∀ i, M i → i < h0.next ∨ h0.next + 4 ≤ i) (hrow : Row h0 3 sl (es.map edL))
    (hm0 : ¬ M pg) (hm1 : ¬ M pf) (hm3 : ¬ M pl) (hm2 : ∀ b o n c, sl = .slice (some ⟨b, o, none⟩) n c → ¬ M b) (hpg : pg < h0.next) (hgg : h0.get pg = some (.cells (gL st lb sl) 0)) (hpf : pf < h0.next) (hgf : h0.get pf = some (.cells [.int .i64 a] 0)) (hpl : pl < h0.next) (hgl : h0.get pl = some (.cells [.int .i64 lab] 0)) (Inv : Nat → H → Prop) (Stop : H → Prop)
    (hst : ∀ i h1 h2, Inv i h1 → FrD (fun j => j = h0.next + 3) h1 h2 → Inv i h2) (hstS : ∀ h1 h2, Stop h1 → FrD (fun j => j = h0.next + 3) h1 h2 → Stop h2)
    (hy : YOk F y ((tos es a lab).map fun t => .int .i64 t) M (h0.next + 4) Inv Stop) (hI : Inv 0 h0) {P : Value → H → Prop} (hP : ∀ h', FrD M h0 h' → (Inv (tos es a lab).length h' ∨ Stop h') → P (.tuple #[]) h') :
    Ret F (leadsV pg pf pl) [y] h0 P := by
  refine Ret.clo F_G 4 (by decide) ?_
  show OkV (zl (rI F) 4 f_G [y, ptr pg, ptr pf, ptr pl] h0) P
  obtain ⟨base0, c0, hsl0⟩ := hrow.lenM
  subst hsl0
  rw [s_G]
  simp (disch := omega) [hgg, hgf, steps_ok, hyl]
  obtain ⟨l, hl⟩ : ∃ l, l = h0.next + 1 + 1 + 1 := ⟨_, rfl⟩
  obtain ⟨hh, ehh⟩ : ∃ hh, hh = ((((h0.new (.cells [y] 0)).new (.cells [.int .i64 st, .int .i64 lb, .slice base0 es.length c0] 0)).new (.cells [.int .i64 a] 0)).new (.loop .ready none (setL [p3, p4] [ptr pl, ptr h0.next]) zd8)) := ⟨_, rfl⟩
  rw [← hl, ← ehh]
  have hf0 : Fr h0 hh := by rw [ehh]; exact (((Fr.new _ _).newR _).newR _).newR _
  have hnx : hh.next = h0.next + 4 := by rw [ehh]; simp
  have gl : hh.get l = some (.loop .ready none (setL [p3, p4] [ptr pl, ptr h0.next]) zd8) := by rw [ehh]; simp (disch := omega) [hl]
  have gy : hh.get h0.next = some (.cells [y] 0) := by rw [ehh]; simp (disch := omega)
  have gp : hh.get pl = some (.cells [.int .i64 lab] 0) := (hf0.get _ hpl).trans hgl
  have gg : hh.get (h0.next + 1) = some (.cells (gL st lb (.slice base0 es.length c0)) 0) := by rw [ehh]; simp (disch := omega)
  have gf : hh.get (h0.next + 1 + 1) = some (.cells [.int .i64 a] 0) := by rw [ehh]; simp (disch := omega)
  have nM : ∀ j, h0.next ≤ j → j < h0.next + 4 → ¬ M j := fun j hj hk hm => by have := hM j hm; omega
  have hstL : ∀ {h1 h2 : H}, FrD (fun j => j = l) h1 h2 → FrD (fun j => j = h0.next + 3) h1 h2 := fun h => h.mono fun i _ e => by omega
  refine OkV.call (zhp es hs hsz a st lb (.func (.yield l) #[] #[]) (.slice base0 es.length c0) (h0.next + 1) (h0.next + 1 + 1) hh (M := fun j => M j ∨ j = l) (hrow.fr hf0) ?_ ?_ ?_ (by omega) gg (by omega) gf
    (fun i h => Inv (cnt (outs es a) lab i) h ∧ h.get l = some (.loop .ready none (setL [p3, p4] [ptr pl, ptr h0.next]) zd8) ∧ h.get pl = some (.cells [.int .i64 lab] 0) ∧ h.get h0.next = some (.cells [y] 0) ∧ hh.next ≤ h.next)
    (fun h => Stop h ∧ h.get l = some (.loop .done (some .ret) (setL [p3, p4] [ptr pl, ptr h0.next]) zd8)) hh.next (Nat.le_refl _) ?_ ?_ ?_
    (P := fun _ h' => FrD (fun j => M j ∨ j = l) hh h' ∧ ((Inv (tos es a lab).length h' ∧ h'.get l = some (.loop .ready none (setL [p3, p4] [ptr pl, ptr h0.next]) zd8)) ∨ (Stop h' ∧ h'.get l = some (.loop .done (some .ret) (setL [p3, p4] [ptr pl, ptr h0.next]) zd8)))) ?_) ?_
  · rintro (h | h)
    · exact nM _ (by omega) (by omega) h
    · omega
  · rintro (h | h)
    · exact nM _ (by omega) (by omega) h
    · omega
  · rintro b o n c e (h | h)
    · exact hm2 b o n c e h
    · subst h
      have := hrow.lt e
      omega
  · rintro i h1 h2 ⟨i1, i2, i3, i4, i5⟩ hf
    refine ⟨hst _ _ _ i1 hf.D, (hf.get _ (by omega)).trans i2, (hf.get _ (by omega)).trans i3, (hf.get _ (by omega)).trans i4, Nat.le_trans i5 hf.next⟩
  · rintro i v h1 hv ⟨i1, i2, i3, i4, i5⟩ hn
    rw [List.getElem?_map] at hv
    obtain ⟨x, hx, rfl⟩ := Option.map_eq_some_iff.1 hv
    refine Ret.round i2 ?_
    rw [s_G_0]
    simp (disch := omega)
    rw [zfT (by rw [zbg (by omega)]; exact i2), s_G_1]
    simp (disch := omega) [i3, i4]
    by_cases e : x.2.2 = lab
    · have hc := cnt_get hx e
      have hc' : ((tos es a lab).map fun t => Value.int .i64 t)[cnt (outs es a) lab i]? = some (.int .i64 x.2.1) := by
        unfold tos; rw [List.getElem?_map, List.getElem?_map, hc]; rfl
      have := hy _ _ ((h1.new (.cells (edL x) 0)).put l (.loop .busy none (setL [p3, p4] [ptr pl, ptr h0.next]) zd8)) hc' (hst _ _ _ i1 (hstL (((FrD.refl _ _).new _).put (D := fun j => j = l) (.inr rfl) _))) (by simp; omega)
      obtain ⟨x1, x2, x3⟩ := x
      obtain rfl : x3 = lab := e
      have hcs := cnt_succ (lab := x3) hx
      rw [if_pos rfl] at hcs
      simp (disch := omega)
      refine OkV.call this ?_
      rintro v h' ⟨hf, hv'⟩
      have hfl : FrD (fun j => M j ∨ j = l) h1 h' := (((FrD.refl _ _).new _).put (D := fun j => M j ∨ j = l) (.inr (.inr rfl)) _).trans (hf.mono fun _ _ h => .inl h)
      have gl' : h'.get l = some (.loop .busy none (setL [p3, p4] [ptr pl, ptr h0.next]) zd8) := by
        rw [hf.get _ (by simp; omega) (nM _ (by omega) (by omega)), zB rfl]
      have gp' : h'.get pl = some (.cells [.int .i64 x3] 0) := (hfl.get _ (by omega) (fun h => h.elim hm3 (by omega))).trans i3
      have gy' : h'.get h0.next = some (.cells [y] 0) := (hfl.get _ (by omega) (fun h => h.elim (nM _ (Nat.le_refl _) (by omega)) (by omega))).trans i4
      have hn' := hfl.next
      rcases hv' with ⟨rfl, hI'⟩ | ⟨rfl, hS⟩
      · simp [zeN gl']
        refine OkV.val ⟨hfl.put (.inr (.inr rfl)) _, .inl ⟨rfl, ?_, by simp, ?_, ?_, by simp; omega⟩⟩
        · rw [hcs]; exact hst _ _ _ hI' (hstL ((FrD.refl _ _).put (D := fun j => j = l) (.inr rfl) _))
        · rw [zk (by omega)]; exact gp'
        · rw [zk (by omega)]; exact gy'
      · simp [zfN gl']
        exact OkV.val ⟨hfl.put (.inr (.inr rfl)) _, .inr ⟨rfl, hstS _ _ hS (hstL ((FrD.refl _ _).put (D := fun j => j = l) (.inr rfl) _)), by simp⟩⟩
    · have hcs := cnt_succ (lab := lab) hx
      rw [if_neg e] at hcs
      have gl' : ((h1.new (.cells (edL x) 0)).put l (.loop .busy none (setL [p3, p4] [ptr pl, ptr h0.next]) zd8)).get l = some (.loop .busy none (setL [p3, p4] [ptr pl, ptr h0.next]) zd8) := zB rfl
      simp (disch := omega) [e, zeN gl', put_put]
      have hfl : FrD (fun j => M j ∨ j = l) h1 ((h1.new (.cells (edL x) 0)).put l (.loop .ready none (setL [p3, p4] [ptr pl, ptr h0.next]) zd8)) := ((FrD.refl _ _).new _).put (.inr (.inr rfl)) _
      refine OkV.val ⟨hfl, .inl ⟨rfl, ?_, by simp, ?_, ?_, by simp; omega⟩⟩
      · rw [hcs]; exact hst _ _ _ i1 (hstL (((FrD.refl _ _).new _).put (D := fun j => j = l) (.inr rfl) _))
      · rw [zk (by omega), zbg (by omega)]; exact i3
      · rw [zk (by omega), zbg (by omega)]; exact i4
  · exact ⟨hst _ _ _ (by simpa [cnt] using hI) hf0.D, gl, gp, gy, Nat.le_refl _⟩
  · intro h' hf hv
    have ec : cnt (outs es a) lab (outs es a).length = (tos es a lab).length := by unfold cnt tos; simp
    refine ⟨hf, ?_⟩
    rcases hv with ⟨i1, i2, _⟩ | ⟨i1, i2⟩
    · exact .inl ⟨ec ▸ i1, i2⟩
    · exact .inr ⟨i1, i2⟩
  · rintro v h' ⟨hf, hv⟩
    have hfM : ∀ {o : IObj}, FrD M h0 (h'.put l o) := fun {o} => ⟨Nat.le_trans hf0.next hf.next, fun i hi hm => by
      rw [zk (by omega)]; exact (hf.get i (by omega) (fun h => h.elim hm (by omega))).trans (hf0.get i hi)⟩
    rcases hv with ⟨i1, i2⟩ | ⟨i1, i2⟩
    · rw [zd6 i2]
      exact OkV.val (hP _ hfM (.inl (hst _ _ _ i1 (hstL ((FrD.refl _ _).put (D := fun j => j = l) (.inr rfl) _)))))
    · rw [rgP_ret i2]
      exact OkV.val (hP _ hfM (.inr (hstS _ _ i1 (hstL ((FrD.refl _ _).put (D := fun j => j = l) (.inr rfl) _)))))
end Go.Ideal.J
namespace Go.Ideal.J
open Go Go.Ideal
end Go.Ideal.J
namespace Go.Ideal.J
open Go Go.Ideal
end Go.Ideal.J
namespace Go.Ideal.J
open Go Go.Ideal
theorem zfi {es : List Ed} {a lab t : Int} : t ∈ tos es a lab ↔ ∃ x ∈ es, x.1 = a ∧ x.2.2 = lab ∧ x.2.1 = t := by
  unfold tos outs
  constructor
  · intro h
    obtain ⟨x, hx, rfl⟩ := List.mem_map.1 h
    obtain ⟨h1, h2⟩ := List.mem_filter.1 hx
    obtain ⟨h3, h4⟩ := List.mem_filter.1 h1
    exact ⟨x, h3, by simpa using h4, by simpa using h2, rfl⟩
  · rintro ⟨x, hx, h1, h2, rfl⟩
    exact List.mem_map.2 ⟨x, List.mem_filter.2 ⟨List.mem_filter.2 ⟨hx, by simpa using h1⟩, by simpa using h2⟩, rfl⟩
end Go.Ideal.J
namespace Go.Ideal.J
open Go Go.Ideal
end Go.Ideal.J
namespace Go.Ideal.J
open Go Go.Ideal
structure zil (h : H) (B : Nat) (bl : List Nat) (lo hi N : Nat) (T : Nat → Nat → Prop) : Prop where
  get : h.get B = some (.cells (bl.map fun b => slF b N) 0)
  nd : bl.Nodup
  bnd : ∀ b ∈ bl, lo ≤ b ∧ b < hi
  row : ∀ (l b : Nat), bl[l]? = some b → ∃ bs : List Bool, h.get b = some (.cells (boolsL bs) 0) ∧ bs.length = N ∧ ∀ c, bs[c]? = some true ↔ c < N ∧ T l c
  ltB : B < h.next
  out : B < lo
  hin : hi ≤ h.next
theorem zil.fr {D : Nat → Prop} {h h' : H} {B : Nat} {bl : List Nat} {lo hi N : Nat} {T : Nat → Nat → Prop} (t : zil h B bl lo hi N T) (hf : FrD D h h') (hB : ¬ D B) (hb : ∀ b, lo ≤ b → b < hi → ¬ D b) : zil h' B bl lo hi N T where
  get := (hf.get _ t.ltB hB).trans t.get
  nd := t.nd
  bnd := t.bnd
  row := fun l b e => by
    obtain ⟨bs, h1, h2, h3⟩ := t.row l b e
    have := t.bnd b (List.mem_of_getElem? e)
    have := t.hin
    exact ⟨bs, (hf.get _ (by omega) (hb b (by omega) (by omega))).trans h1, h2, h3⟩
  ltB := Nat.lt_of_lt_of_le t.ltB hf.next
  out := t.out
  hin := Nat.le_trans t.hin hf.next
theorem zil.set {h : H} {B : Nat} {bl : List Nat} {lo hi N : Nat} {T : Nat → Nat → Prop} (t : zil h B bl lo hi N T) {l c b : Nat} (hl : bl[l]? = some b) (hc : c < N) {bs : List Bool} (hg : h.get b = some (.cells (boolsL bs) 0)) : zil (h.put b (.cells (boolsL (bs.set c true)) 0)) B bl lo hi N (fun l' c' => T l' c' ∨ (l' = l ∧ c' = c)) where
  get := by
    have := t.bnd b (List.mem_of_getElem? hl)
    have := t.out
    rw [zk (by omega)]; exact t.get
  nd := t.nd
  bnd := t.bnd
  row := fun l' b' e => by
    obtain ⟨bs', h1, h2, h3⟩ := t.row l' b' e
    by_cases eb : b' = b
    · subst eb
      have el : l' = l := by
        have hl1 : l' < bl.length := by
          rcases Nat.lt_or_ge l' bl.length with h' | h'
          · exact h'
          · rw [List.getElem?_eq_none h'] at e; cases e
        have hl2 : l < bl.length := by
          rcases Nat.lt_or_ge l bl.length with h' | h'
          · exact h'
          · rw [List.getElem?_eq_none h'] at hl; cases hl
        rw [List.getElem?_eq_getElem hl1] at e
        rw [List.getElem?_eq_getElem hl2] at hl
        exact (List.getElem_inj t.nd).1 ((Option.some.inj e).trans (Option.some.inj hl).symm)
      subst el
      rw [hg] at h1
      have e2 : bs = bs' := by
        have : boolsL bs = boolsL bs' := (IObj.cells.inj (Option.some.inj h1)).1
        exact List.map_inj_right (fun _ _ h => by cases h; rfl) |>.1 this
      subst e2
      refine ⟨bs.set c true, zB rfl, by simpa using h2, fun c' => ?_⟩
      rw [List.getElem?_set]
      split
      · rename_i ec; subst ec
        simp [h2, hc]
      · rename_i ec
        rw [h3]
        constructor
        · rintro ⟨q1, q2⟩; exact ⟨q1, .inl q2⟩
        · rintro ⟨q1, q2 | q2⟩
          · exact ⟨q1, q2⟩
          · exact absurd q2.2.symm ec
    · refine ⟨bs', by rw [zk eb]; exact h1, h2, fun c' => (h3 c').trans ?_⟩
      have : l' ≠ l := by rintro rfl; rw [hl] at e; cases e; exact eb rfl
      constructor
      · rintro ⟨q1, q2⟩; exact ⟨q1, .inl q2⟩
      · rintro ⟨q1, q2 | q2⟩
        · exact ⟨q1, q2⟩
        · exact absurd q2.1 this
  ltB := t.ltB
  out := t.out
  hin := t.hin
theorem zil.congr {h : H} {B : Nat} {bl : List Nat} {lo hi N : Nat} {T T' : Nat → Nat → Prop} (t : zil h B bl lo hi N T) (e : ∀ l c, c < N → (T l c ↔ T' l c)) : zil h B bl lo hi N T' where
  get := t.get
  nd := t.nd
  bnd := t.bnd
  row := fun l b el => by
    obtain ⟨bs', h1, h2, h3⟩ := t.row l b el
    refine ⟨bs', h1, h2, fun c => (h3 c).trans ?_⟩
    constructor
    · rintro ⟨q1, q2⟩; exact ⟨q1, (e l c q1).1 q2⟩
    · rintro ⟨q1, q2⟩; exact ⟨q1, (e l c q1).2 q2⟩
  ltB := t.ltB
  out := t.out
  hin := t.hin
theorem zil.slice {h : H} {B : Nat} {bl : List Nat} {lo hi N : Nat} {T : Nat → Nat → Prop} (t : zil h B bl lo hi N T) {l b : Nat} (hl : bl[l]? = some b) : zY 1 (zbw l (bl.map fun b => slF b N)) = some [slF b N] := zcz (by rw [List.getElem?_map, hl]; rfl) rfl
end Go.Ideal.J
namespace Go.Ideal.J
open Go Go.Ideal
end Go.Ideal.J
namespace Go.Ideal.J
open Go Go.Ideal
end Go.Ideal.J
namespace Go.Ideal.J
open Go Go.Ideal
end Go.Ideal.J
namespace Go.Ideal.J
open Go Go.Ideal
end Go.Ideal.J
namespace Go.Ideal.J
open Go Go.Ideal
def W (es : List Ed) (n l c : Nat) : Prop := (l = 0 ∧ Sil es n c) ∨ ∃ x ∈ es, Sil es n x.1.toNat ∧ x.2.2 = (l : Int) ∧ Sil es x.2.1.toNat c
end Go.Ideal.J
namespace Go.Ideal.J
open Go Go.Ideal
end Go.Ideal.J
namespace Go.Ideal.J
open Go Go.Ideal
structure ziI (st lb : Int) (es : List Ed) : Prop where
  st1 : 1 ≤ st
  st2 : st ≤ 60
  lb1 : 1 ≤ lb
  lb2 : lb ≤ 41
  len : es.length ≤ 400
  ok : ∀ x ∈ es, 0 ≤ x.1 ∧ x.1 < st ∧ 0 ≤ x.2.1 ∧ x.2.1 < st ∧ 0 ≤ x.2.2 ∧ x.2.2 < lb
  next : ∀ i x y, es[i]? = some x → es[i + 1]? = some y → zcJ x y = true
theorem ziI.inB {st lb : Int} {es : List Ed} (f : ziI st lb es) : inB st es := fun x hx => by have := f.ok x hx; exact ⟨this.1, this.2.1, this.2.2.1, this.2.2.2.1⟩
theorem lessE_iff (a b : Ed) : zcJ a b = true ↔ a.1 < b.1 ∨ (a.1 = b.1 ∧ (a.2.2 < b.2.2 ∨ (a.2.2 = b.2.2 ∧ a.2.1 < b.2.1))) := by
  unfold zcJ
  by_cases h1 : a.1 = b.1
  · by_cases h2 : a.2.2 = b.2.2
    · simp [h1, h2]
    · simp [h1, h2]
  · simp [h1]
theorem lessE_trans {a b c : Ed} (h1 : zcJ a b = true) (h2 : zcJ b c = true) : zcJ a c = true := by
  rw [lessE_iff] at *; omega
theorem ziI.sorted {st lb : Int} {es : List Ed} (f : ziI st lb es) : es.Pairwise fun x y => zcJ x y = true := by
  have key : ∀ (l : List Ed), (∀ i x y, l[i]? = some x → l[i + 1]? = some y → zcJ x y = true) → l.Pairwise fun x y => zcJ x y = true := by
    intro l
    induction l with
    | nil => intro _; exact .nil
    | cons a l ih =>
      intro h
      have ihl := ih fun i x y hx hy => h (i + 1) x y (by simpa using hx) (by simpa using hy)
      refine List.pairwise_cons.2 ⟨?_, ihl⟩
      cases l with
      | nil => intro b hb; cases hb
      | cons b l =>
        have hab := h 0 a b rfl rfl
        intro c hc
        rcases List.mem_cons.1 hc with rfl | hc
        · exact hab
        · exact lessE_trans hab ((List.pairwise_cons.1 ihl).1 c hc)
  exact key es f.next
theorem ziI.sortedF {st lb : Int} {es : List Ed} (f : ziI st lb es) : zZ es := f.sorted.imp fun h => by rw [lessE_iff] at h; omega
theorem zek (st lb : Int) (es : List Ed) : chk st lb es = true ↔ ziI st lb es := by
  have key : ∀ n, n ≤ es.length → (ckN st lb es n = true ↔ ∀ i, es.length - n ≤ i → okAt st lb es i = true) := by
    intro n
    induction n with
    | zero =>
      intro _
      constructor
      · intro _ i hi
        unfold okAt
        rw [List.getElem?_eq_none (by omega)]
      · intro _; rfl
    | succ n ih =>
      intro hn
      show (okAt st lb es (es.length - (n + 1)) && ckN st lb es n) = true ↔ _
      rw [Bool.and_eq_true, ih (by omega)]
      constructor
      · rintro ⟨h1, h2⟩ i hi
        by_cases e : i = es.length - (n + 1)
        · rw [e]; exact h1
        · exact h2 i (by omega)
      · intro h
        exact ⟨h _ (by omega), fun i hi => h i (by omega)⟩
  have key2 : (ckN st lb es es.length = true) ↔ ((∀ x ∈ es, 0 ≤ x.1 ∧ x.1 < st ∧ 0 ≤ x.2.1 ∧ x.2.1 < st ∧ 0 ≤ x.2.2 ∧ x.2.2 < lb) ∧ ∀ i x y, es[i]? = some x → es[i + 1]? = some y → zcJ x y = true) := by
    rw [key es.length (Nat.le_refl _)]
    constructor
    · intro h
      refine ⟨fun x hx => ?_, fun i x y hx hy => ?_⟩
      · obtain ⟨i, hi⟩ := List.mem_iff_getElem?.1 hx
        have := h i (by omega)
        unfold okAt at this
        rw [hi] at this
        simp only [Bool.and_eq_true, Bool.not_eq_true', badE, Bool.or_eq_false_iff, decide_eq_false_iff_not] at this
        omega
      · have := h (i + 1) (by omega)
        unfold okAt at this
        rw [hy] at this
        simp only [Bool.and_eq_true, Nat.add_sub_cancel, hx] at this
        simpa using this.2
    · rintro ⟨h1, h2⟩ i _
      unfold okAt
      cases hx : es[i]? with
      | none => rfl
      | some x =>
        have hb := h1 x (List.mem_of_getElem? hx)
        have hbad : badE st lb x = false := by
          simp only [badE, Bool.or_eq_false_iff, decide_eq_false_iff_not]; omega
        simp only [hbad, Bool.not_false, Bool.true_and, Bool.or_eq_true, decide_eq_true_eq]
        by_cases e : i = 0
        · exact .inl e
        · right
          cases hy : es[i - 1]? with
          | none => rfl
          | some y => exact h2 (i - 1) y x hy (by rw [show i - 1 + 1 = i by omega]; exact hx)
  unfold chk
  simp only [Bool.and_eq_true, Bool.not_eq_true', Bool.or_eq_false_iff, decide_eq_false_iff_not, key2]
  constructor
  · rintro ⟨⟨⟨⟨⟨h1, h2⟩, h3⟩, h4⟩, h5⟩, h6, h7⟩
    exact ⟨by omega, by omega, by omega, by omega, by omega, h6, h7⟩
  · rintro ⟨h1, h2, h3, h4, h5, h6, h7⟩
    exact ⟨⟨⟨⟨⟨by omega, by omega⟩, by omega⟩, by omega⟩, by omega⟩, h6, h7⟩
abbrev zdS (a b : Value) : Value := .tuple ⟨[a, b]⟩
end Go.Ideal.J
set_option maxHeartbeats 2000000
namespace Go.Ideal.J
open Go Go.Ideal
abbrev rV (r : Int → Int → Option Int) : Int → Int → Option Value := fun a b => (r a b).map fun k => Value.int .i64 k
def zbD (r : Int → Int → Option Int) (round u t : Int) : Bool := decide (u ≠ t) && match r u t with | some k => decide (k ≤ round) | none => false
def zft (r : Int → Int → Option Int) (es : List Ed) (x : Ed) (other round : Int) : Bool := (tos es other x.2.2).all fun t => zbD r round x.2.1 t
theorem told_round (r : Int → Int → Option Int) (m : Nat) (x : Ed) (round t : Int) (L pm px pr pq : Nat) (h1 : H) (hm : MapM h1 m (rV r)) (hml : m < h1.next) (hL : h1.get L = some (.loop .ready none (setL [p5, p7, p9, p10] [ptr pm, ptr px, ptr pr, ptr pq]) zdd))
    (hpm : h1.get pm = some (.cells [.map (some m)] 0)) (hpx : h1.get px = some (.cells (edL x) 0)) (hpr : h1.get pr = some (.cells [.int .i64 round] 0)) (hpq : h1.get pq = some (.cells [.bool false] 0)) (l0 : L < h1.next) (l1 : pm < h1.next) (l2 : px < h1.next) (l3 : pr < h1.next) (l4 : pq < h1.next)
    (n1 : pm ≠ L) (n2 : px ≠ L) (n3 : pr ≠ L) (n4 : pq ≠ L) (n5 : m ≠ L) {P : Value → H → Prop}
    (hP1 : zbD r round x.2.1 t = true → ∀ h', FrD (fun j => j = L ∨ j = pq) h1 h' → h'.get L = some (.loop .ready none (setL [p5, p7, p9, p10] [ptr pm, ptr px, ptr pr, ptr pq]) zdd) → h'.get pq = some (.cells [.bool false] 0) → P (.bool true) h')
    (hP2 : zbD r round x.2.1 t = false → ∀ h', FrD (fun j => j = L ∨ j = pq) h1 h' → h'.get L = some (.loop .done (some .ret) (setL [p5, p7, p9, p10] [ptr pm, ptr px, ptr pr, ptr pq]) zdd) → h'.get pq = some (.cells [.bool false] 0) → P (.bool false) h') :
    Ret F (.func (.yield L) #[] #[]) [.int .i64 t] h1 P := by
  refine Ret.round hL ?_
  rw [s_g_1]
  simp (disch := first | omega | (simp only [za, zb]; done) | (simp only [za, zb]; omega)) []
  rw [zfT hL, s_g_2]
  obtain ⟨h2, eh2⟩ : ∃ h2, h2 = (h1.put L (.loop .busy none (setL [p5, p7, p9, p10] [ptr pm, ptr px, ptr pr, ptr pq]) zdd)).new (.cells [.int .i64 x.2.1, .int .i64 t] 0) := ⟨_, rfl⟩
  have hf2 : FrD (fun j => j = L) h1 h2 := by rw [eh2]; exact ((FrD.refl (fun j => j = L) _).put (.inr rfl) _).new _
  have hn2 : h2.next = h1.next + 1 := by rw [eh2]; simp
  have gL : h2.get L = some (.loop .busy none (setL [p5, p7, p9, p10] [ptr pm, ptr px, ptr pr, ptr pq]) zdd) := by rw [eh2, zbg (by simp; omega), zB rfl]
  have hm2 : MapM h2 m (rV r) := hm.fr hf2 hml n5
  have gm := (hf2.get _ l1 n1).trans hpm
  have gx := (hf2.get _ l2 n2).trans hpx
  have gr := (hf2.get _ l3 n3).trans hpr
  have gq := (hf2.get _ l4 n4).trans hpq
  have gp : h2.get h1.next = some (.cells [.int .i64 x.2.1, .int .i64 t] 0) := by rw [eh2, zdh (by simp)]
  have hlk := look_ok hm2 (.int .i64 0) x.2.1 t
  have hf3 : ∀ o, FrD (fun j => j = L ∨ j = pq) h1 (h2.put L o) := fun o => (hf2.mono fun _ _ h => .inl h).put (.inr (.inl rfl)) _
  have hf4 : ∀ o o', FrD (fun j => j = L ∨ j = pq) h1 ((h2.put pq o').put L o) := fun o o' => ((hf2.mono fun _ _ h => .inl h).put (.inr (.inr rfl)) _).put (.inr (.inl rfl)) _
  have gL4 : ∀ o', (h2.put pq o').get L = some (.loop .busy none (setL [p5, p7, p9, p10] [ptr pm, ptr px, ptr pr, ptr pq]) zdd) := fun o' => by rw [zk (Ne.symm n4)]; exact gL
  have okk : zbD r round x.2.1 t = true → OkV (fin L none h2) P := fun e => by
    rw [zeN gL]
    exact OkV.val (hP1 e _ (hf3 _) (zB rfl) (by rw [zk n4]; exact gq))
  have okn : zbD r round x.2.1 t = false → OkV (fin L (some .ret) (h2.put pq (.cells [.bool false] 0))) P := fun e => by
    rw [zfN (gL4 _)]
    exact OkV.val (hP2 e _ (hf4 _ _) (zB rfl) (by rw [zk n4]; exact zB rfl))
  by_cases c1 : x.2.1 = t
  · refine OkV.eq (okn (by simp [zbD, c1])) ?_
    rw [c1] at hlk gp eh2
    simp (disch := first | omega | (simp only [za, zb]; done) | (simp only [za, zb]; omega)) [hpx, n2, c1, zn, ← eh2, gm, gp, hlk, zdb, gq]
  · cases hr : r x.2.1 t with
    | none =>
      simp only [rV, hr, Option.map_none, Option.map_some, Option.getD_none, Option.getD_some, Option.isSome_none, Option.isSome_some] at hlk
      refine OkV.eq (okn (by simp [zbD, hr])) ?_
      simp (disch := first | omega | (simp only [za, zb]; done) | (simp only [za, zb]; omega)) [hpx, n2, c1, zn, ← eh2, gm, gp, hlk, zdb, gq]
    | some k =>
      simp only [rV, hr, Option.map_none, Option.map_some, Option.getD_none, Option.getD_some, Option.isSome_none, Option.isSome_some] at hlk
      by_cases c2 : k ≤ round
      · refine OkV.eq (okk (by simp [zbD, hr, c1, c2])) ?_
        simp (disch := first | omega | (simp only [za, zb]; done) | (simp only [za, zb]; omega)) [hpx, n2, c1, zn, ← eh2, gm, gp, hlk, zdb, gq, gr, c2]
      · refine OkV.eq (okn (by simp [zbD, hr, c2])) ?_
        simp (disch := first | omega | (simp only [za, zb]; done) | (simp only [za, zb]; omega)) [hpx, n2, c1, zn, ← eh2, gm, gp, hlk, zdb, gq, gr, c2]
end Go.Ideal.J
namespace Go.Ideal.J
open Go Go.Ideal
theorem told_ok (es : List Ed) (hs : zZ es) (hsz : es.length ≤ 1000) (st lb : Int) (r : Int → Int → Option Int) (m : Nat) (x : Ed) (other round : Int) (sl : Value) (h : H) (hrow : Row h 3 sl (es.map edL)) (hm : MapM h m (rV r)) (hml : m < h.next) :
    ∃ h', zbj F (fnV n_g) [.map (some m), gV st lb sl, edV x, .int .i64 other, .int .i64 round] h = some (.bool (zft r es x other round), h') ∧ Fr h h' := by
  suffices hr : Ret F (fnV n_g) [.map (some m), gV st lb sl, edV x, .int .i64 other, .int .i64 round] h fun v h' => v = .bool (zft r es x other round) ∧ Fr h h' by
    obtain ⟨v, h', e, rfl, hf⟩ := hr; exact ⟨h', e, hf⟩
  obtain ⟨P, hPd⟩ : ∃ P : Value → H → Prop, P = fun v h' => v = .bool (zft r es x other round) ∧ Fr h h' := ⟨_, rfl⟩
  rw [← hPd]
  refine Ret.fn F_g 5 (by decide) ?_
  rw [s_g]
  have hv := hrow.slvM
  obtain ⟨q, eq⟩ : ∃ q, q = h.next := ⟨_, rfl⟩
  obtain ⟨h2, eh2⟩ : ∃ h2, h2 = ((((((((h.new (.cells [.map (some m)] 0)).new (.cells (gL st lb sl) 0)).new (.cells (edL x) 0)).new (.cells [.int .i64 round] 0)).new (.cells [.bool false] 0)).new (.cells (gL st lb sl) 0)).new (.cells [.int .i64 other] 0)).new (.cells [.int .i64 x.2.2] 0)).new (.loop .ready none (setL [p5, p7, p9, p10] [ptr h.next, ptr (h.next + 1 + 1), ptr (h.next + 1 + 1 + 1), ptr (h.next + 1 + 1 + 1 + 1)]) zdd) := ⟨_, rfl⟩
  simp (disch := first | omega | (simp only [za, zb]; done) | (simp only [za, zb]; omega)) [hv.clean, hv.take, leads_ok]
  rw [← eh2, ← eq]
  have hf2 : Fr h h2 := by rw [eh2]; exact ((((((((Fr.new _ _).newR _).newR _).newR _).newR _).newR _).newR _).newR _).newR _
  have hn2 : h2.next = q + 9 := by rw [eh2, eq]; simp
  have gm2 : h2.get q = some (.cells [.map (some m)] 0) := by rw [eh2, eq]; simp (disch := first | omega | (simp only [za, zb]; done) | (simp only [za, zb]; omega)) []
  have gx2 : h2.get (q + 1 + 1) = some (.cells (edL x) 0) := by rw [eh2, eq]; simp (disch := first | omega | (simp only [za, zb]; done) | (simp only [za, zb]; omega)) []
  have gr2 : h2.get (q + 1 + 1 + 1) = some (.cells [.int .i64 round] 0) := by rw [eh2, eq]; simp (disch := first | omega | (simp only [za, zb]; done) | (simp only [za, zb]; omega)) []
  have gq2 : h2.get (q + 1 + 1 + 1 + 1) = some (.cells [.bool false] 0) := by rw [eh2, eq]; simp (disch := first | omega | (simp only [za, zb]; done) | (simp only [za, zb]; omega)) []
  have gg2 : h2.get (q + 1 + 1 + 1 + 1 + 1) = some (.cells (gL st lb sl) 0) := by rw [eh2, eq]; simp (disch := first | omega | (simp only [za, zb]; done) | (simp only [za, zb]; omega)) []
  have go2 : h2.get (q + 1 + 1 + 1 + 1 + 1 + 1) = some (.cells [.int .i64 other] 0) := by rw [eh2, eq]; simp (disch := first | omega | (simp only [za, zb]; done) | (simp only [za, zb]; omega)) []
  have gl2 : h2.get (q + 1 + 1 + 1 + 1 + 1 + 1 + 1) = some (.cells [.int .i64 x.2.2] 0) := by rw [eh2, eq]; simp (disch := first | omega | (simp only [za, zb]; done) | (simp only [za, zb]; omega)) []
  have gL2 : h2.get (q + 1 + 1 + 1 + 1 + 1 + 1 + 1 + 1) = some (.loop .ready none (setL [p5, p7, p9, p10] [ptr q, ptr (q + 1 + 1), ptr (q + 1 + 1 + 1), ptr (q + 1 + 1 + 1 + 1)]) zdd) := by rw [eh2, eq]; simp (disch := first | omega | (simp only [za, zb]; done) | (simp only [za, zb]; omega)) []
  obtain ⟨L, eL⟩ : ∃ L, L = q + 1 + 1 + 1 + 1 + 1 + 1 + 1 + 1 := ⟨_, rfl⟩
  rw [← eL] at gL2 ⊢
  have hm2 := hm.fr (D := fun _ => False) hf2.D hml (by simp)
  refine OkV.call (leads_run es hs hsz other x.2.2 st lb (.func (.yield L) #[] #[]) rfl rfl rfl sl (q + 1 + 1 + 1 + 1 + 1) (q + 1 + 1 + 1 + 1 + 1 + 1) (q + 1 + 1 + 1 + 1 + 1 + 1 + 1) h2 (M := fun j => j = L ∨ j = q + 1 + 1 + 1 + 1) (fun i hi => by omega) (hrow.fr hf2) (by omega) (by omega) (by omega) (fun b o n c e => by have := hrow.lt e; omega) (by omega) gg2 (by omega) go2 (by omega) gl2
    (fun i h1 => h1.get L = some (.loop .ready none (setL [p5, p7, p9, p10] [ptr q, ptr (q + 1 + 1), ptr (q + 1 + 1 + 1), ptr (q + 1 + 1 + 1 + 1)]) zdd) ∧ h1.get (q + 1 + 1 + 1 + 1) = some (.cells [.bool false] 0) ∧ FrD (fun j => j = L ∨ j = q + 1 + 1 + 1 + 1) h2 h1 ∧ ∀ t ∈ (tos es other x.2.2).take i, zbD r round x.2.1 t = true)
    (fun h1 => h1.get L = some (.loop .done (some .ret) (setL [p5, p7, p9, p10] [ptr q, ptr (q + 1 + 1), ptr (q + 1 + 1 + 1), ptr (q + 1 + 1 + 1 + 1)]) zdd) ∧ h1.get (q + 1 + 1 + 1 + 1) = some (.cells [.bool false] 0) ∧ h2.next ≤ h1.next ∧ ∃ t ∈ tos es other x.2.2, zbD r round x.2.1 t = false) ?_ ?_ ?_ ?_
    (P := fun _ h' => FrD (fun j => j = L ∨ j = q + 1 + 1 + 1 + 1) h2 h' ∧ ((h'.get L = some (.loop .ready none (setL [p5, p7, p9, p10] [ptr q, ptr (q + 1 + 1), ptr (q + 1 + 1 + 1), ptr (q + 1 + 1 + 1 + 1)]) zdd) ∧ h'.get (q + 1 + 1 + 1 + 1) = some (.cells [.bool false] 0) ∧ zft r es x other round = true) ∨ (h'.get L = some (.loop .done (some .ret) (setL [p5, p7, p9, p10] [ptr q, ptr (q + 1 + 1), ptr (q + 1 + 1 + 1), ptr (q + 1 + 1 + 1 + 1)]) zdd) ∧ h'.get (q + 1 + 1 + 1 + 1) = some (.cells [.bool false] 0) ∧ zft r es x other round = false))) ?_) ?_
  · rintro i h1 h3 ⟨q1, q2, q3, q4⟩ hf
    have := q3.next
    refine ⟨(hf.get _ (by omega) (by omega)).trans q1, (hf.get _ (by omega) (by omega)).trans q2, ⟨Nat.le_trans q3.next hf.next, fun j hj hd => (hf.get _ (by omega) (by omega)).trans (q3.get _ hj hd)⟩, q4⟩
  · rintro h1 h3 ⟨q1, q2, q3, q4⟩ hf
    exact ⟨(hf.get _ (by omega) (by omega)).trans q1, (hf.get _ (by omega) (by omega)).trans q2, Nat.le_trans q3 hf.next, q4⟩
  · rintro i v h1 hv ⟨q1, q2, q3, q4⟩ hn
    rw [List.getElem?_map] at hv
    obtain ⟨t, ht, rfl⟩ := Option.map_eq_some_iff.1 hv
    refine told_round r m x round t L q (q + 1 + 1) (q + 1 + 1 + 1) (q + 1 + 1 + 1 + 1) h1 (hm2.fr q3 (by have := hf2.next; omega) (by omega)) (by omega) q1 ((q3.get _ (by omega) (by omega)).trans gm2) ((q3.get _ (by omega) (by omega)).trans gx2) ((q3.get _ (by omega) (by omega)).trans gr2) q2 (by omega) (by omega) (by omega) (by omega) (by omega) (by omega) (by omega) (by omega) (by omega) (by omega) ?_ ?_
    · intro e h' r1 r2 r3
      refine ⟨r1, .inl ⟨rfl, r2, r3, q3.trans r1, fun u hu => ?_⟩⟩
      rw [List.take_add_one, ht] at hu
      rcases List.mem_append.1 hu with hu | hu
      · exact q4 u hu
      · simp at hu; subst hu; exact e
    · intro e h' r1 r2 r3
      exact ⟨r1, .inr ⟨rfl, r2, r3, by have := r1.next; omega, t, List.mem_of_getElem? ht, e⟩⟩
  · exact ⟨gL2, gq2, .refl _ _, by simp⟩
  · intro h' hf hv
    refine ⟨hf, ?_⟩
    rcases hv with ⟨q1, q2, q3, q4⟩ | ⟨q1, q2, q3, t, ht, e⟩
    · refine .inl ⟨q1, q2, ?_⟩
      rw [List.take_length] at q4
      exact List.all_eq_true.2 q4
    · refine .inr ⟨q1, q2, ?_⟩
      rw [Bool.eq_false_iff]
      intro hh
      rw [List.all_eq_true.1 hh t ht] at e; cases e
  · rintro v h' ⟨hf, hv⟩
    have hfn := hf.next
    have hfin : ∀ o o', Fr h ((h'.put L o).put (q + 1 + 1 + 1 + 1) o') := fun o o' => ⟨by simp; have := hf2.next; omega, fun i hi => by
      rw [zk (by omega), zk (by omega), hf.get _ (by have := hf2.next; omega) (by omega)]; exact hf2.get _ hi⟩
    have hfin' : ∀ o, Fr h (h'.put L o) := fun o => ⟨by simp; have := hf2.next; omega, fun i hi => by
      rw [zk (by omega), hf.get _ (by have := hf2.next; omega) (by omega)]; exact hf2.get _ hi⟩
    rcases hv with ⟨q1, q2, q3⟩ | ⟨q1, q2, q3⟩
    · rw [zd6 q1, s_g_0]
      refine OkV.eq (OkV.val (v := .bool true) (h := (h'.put L (.loop .exhausted none (setL [p5, p7, p9, p10] [ptr q, ptr (q + 1 + 1), ptr (q + 1 + 1 + 1), ptr (q + 1 + 1 + 1 + 1)]) zdd)).put (q + 1 + 1 + 1 + 1) (.cells [.bool true] 0)) (by rw [hPd]; exact ⟨by rw [q3], hfin _ _⟩)) ?_
      simp (disch := first | omega | (simp only [za, zb]; done) | (simp only [za, zb]; omega)) [q2]
    · rw [rgP_ret q1]
      refine OkV.eq (OkV.val (v := .bool false) (h := h'.put L (.loop .exhausted (some .ret) (setL [p5, p7, p9, p10] [ptr q, ptr (q + 1 + 1), ptr (q + 1 + 1 + 1), ptr (q + 1 + 1 + 1 + 1)]) zdd)) (by rw [hPd]; exact ⟨by rw [q3], hfin' _⟩)) ?_
      simp (disch := first | omega | (simp only [za, zb]; done) | (simp only [za, zb]; omega)) [q2]
end Go.Ideal.J
namespace Go.Ideal.J
open Go Go.Ideal
def zbf (r : Int → Int → Option Int) (es : List Ed) (a b round : Int) : Option Ed := (outs es a).find? fun x => zft r es x b round
theorem find_at {α : Type} {p : α → Bool} : ∀ {l : List α} {i : Nat} {x : α}, l[i]? = some x → (∀ y ∈ l.take i, p y = false) → p x = true → l.find? p = some x
  | [], i, x, h, _, _ => by simp at h
  | a :: l, 0, x, h, _, hx => by
    simp at h; subst h
    rw [List.find?_cons, hx]
  | a :: l, i + 1, x, h, hn, hx => by
    have ha := hn a (by simp)
    rw [List.find?_cons, ha]
    exact find_at (by simpa using h) (fun y hy => hn y (by simp [hy])) hx
theorem find_none {α : Type} {p : α → Bool} {l : List α} (h : ∀ y ∈ l, p y = false) : l.find? p = none := by
  rw [List.find?_eq_none]; intro x hx; rw [h x hx]; simp
def zcn : Option Ed → Value
  | some x => pairV' (edV x) (.bool true)
  | none => pairV' (edV (0, 0, 0)) (.bool false)
where pairV' (a b : Value) : Value := .tuple ⟨[a, b]⟩
noncomputable abbrev slF1 (q : Nat) : zf := setL [p5, p6, p8, p9, p10, p11] [ptr q, ptr (q + 1), ptr (q + 1 + 1), ptr (q + 1 + 1 + 1), ptr (q + 1 + 1 + 1 + 1), ptr (q + 1 + 1 + 1 + 1 + 1)]
theorem first_round (es : List Ed) (hs : zZ es) (hsz : es.length ≤ 1000) (st lb : Int) (r : Int → Int → Option Int) (m : Nat) (x : Ed) (other round : Int) (sl : Value) (L q : Nat) (h1 : H) (hrow : Row h1 3 sl (es.map edL)) (hsl : ∀ b o n c, sl = .slice (some ⟨b, o, none⟩) n c → b ≠ L) (hm : MapM h1 m (rV r)) (hml : m < q) (hL : h1.get L = some (.loop .ready none (slF1 q) zdz)) (hLq : q + 6 ≤ L)
    (g0 : h1.get q = some (.cells [.map (some m)] 0)) (g1 : h1.get (q + 1) = some (.cells (gL st lb sl) 0)) (g2 : h1.get (q + 1 + 1) = some (.cells [.int .i64 other] 0)) (g3 : h1.get (q + 1 + 1 + 1) = some (.cells [.int .i64 round] 0)) (g4 : h1.get (q + 1 + 1 + 1 + 1) = some (.cells (edL (0, 0, 0)) 0)) (g5 : h1.get (q + 1 + 1 + 1 + 1 + 1) = some (.cells [.bool false] 0)) (hl : L < h1.next) {P : Value → H → Prop}
    (hP1 : zft r es x other round = false → ∀ h', FrD (fun j => j = L ∨ j = q + 4 ∨ j = q + 5) h1 h' → h'.get L = some (.loop .ready none (slF1 q) zdz) → h'.get (q + 4) = some (.cells (edL (0, 0, 0)) 0) → h'.get (q + 5) = some (.cells [.bool false] 0) → P (.bool true) h')
    (hP2 : zft r es x other round = true → ∀ h', FrD (fun j => j = L ∨ j = q + 4 ∨ j = q + 5) h1 h' → h'.get L = some (.loop .done (some .ret) (slF1 q) zdz) → h'.get (q + 4) = some (.cells (edL x) 0) → h'.get (q + 5) = some (.cells [.bool true] 0) → P (.bool false) h') :
    Ret F (.func (.yield L) #[] #[]) [edV x] h1 P := by
  refine Ret.round hL ?_
  rw [s_f_1]
  simp (disch := first | omega | (simp only [za, zb]; done) | (simp only [za, zb]; omega)) []
  obtain ⟨h2, eh2⟩ : ∃ h2, h2 = (h1.new (.cells (edL x) 0)).put L (.loop .busy none (slF1 q) zdz) := ⟨_, rfl⟩
  rw [zfT (by rw [zbg (by omega)]; exact hL), s_f_2]
  have hf2 : FrD (fun j => j = L) h1 h2 := by rw [eh2]; exact ((FrD.refl (fun j => j = L) _).new _).put (.inr rfl) _
  have hn2 : h2.next = h1.next + 1 := by rw [eh2]; simp
  have gL2 : h2.get L = some (.loop .busy none (slF1 q) zdz) := by rw [eh2, zB rfl]
  have gx2 : h2.get h1.next = some (.cells (edL x) 0) := by rw [eh2, zk (by omega), zdh rfl]
  have k0 := (hf2.get _ (by omega) (by omega)).trans g0
  have k1 := (hf2.get _ (by omega) (by omega)).trans g1
  have k2' := (hf2.get _ (by omega) (by omega)).trans g2
  have k3 := (hf2.get _ (by omega) (by omega)).trans g3
  have k4 := (hf2.get _ (by omega) (by omega)).trans g4
  have k5 := (hf2.get _ (by omega) (by omega)).trans g5
  have hv := hrow.slvM
  obtain ⟨h3, e3, hf3⟩ := told_ok es hs hsz st lb r m x other round sl h2 (hrow.frD hf2 hsl) (hm.fr hf2 (by omega) (by omega)) (by omega)
  have hfn3 := hf3.next
  have gL3 := (hf3.get _ (by omega)).trans gL2
  have gx3 := (hf3.get _ (by omega)).trans gx2
  have j4 := (hf3.get _ (by omega)).trans k4
  have j5 := (hf3.get _ (by omega)).trans k5
  have hf13 : FrD (fun j => j = L ∨ j = q + 4 ∨ j = q + 5) h1 h3 := ⟨by omega, fun i hi hd => (hf3.get _ (by omega)).trans (hf2.get _ hi (by omega))⟩
  rw [← eh2]
  cases ht : zft r es x other round with
  | false =>
    rw [ht] at e3
    have : OkV (fin L none h3) P := by
      rw [zeN gL3]
      exact OkV.val (hP1 ht _ (hf13.put (.inr (.inl rfl)) _) (zB rfl) (by rw [zk (by omega)]; exact j4) (by rw [zk (by omega)]; exact j5))
    refine OkV.eq this ?_
    simp (disch := first | omega | (simp only [za, zb]; done) | (simp only [za, zb]; omega)) [k0, k1, k2', k3, gx2, hv.clean, hv.take, e3]
  | true =>
    rw [ht] at e3
    have : OkV (fin L (some .ret) ((h3.put (q + 1 + 1 + 1 + 1) (.cells (edL x) 0)).put (q + 1 + 1 + 1 + 1 + 1) (.cells [.bool true] 0))) P := by
      rw [zfN (by rw [zk (by omega), zk (by omega)]; exact gL3)]
      exact OkV.val (hP2 ht _ (((hf13.put (.inr (.inr (.inl rfl))) _).put (.inr (.inr (.inr rfl))) _).put (.inr (.inl rfl)) _) (zB rfl) (by rw [zk (by omega), zk (by omega), zB rfl]) (by rw [zk (by omega), zB rfl]))
    refine OkV.eq this ?_
    simp (disch := first | omega | (simp only [za, zb]; done) | (simp only [za, zb]; omega)) [k0, k1, k2', k3, gx2, hv.clean, hv.take, e3, gx3, j4, j5]
theorem first_ok (es : List Ed) (hs : zZ es) (hsz : es.length ≤ 1000) (st lb : Int) (r : Int → Int → Option Int) (m : Nat) (a b round : Int) (sl : Value) (h : H) (hrow : Row h 3 sl (es.map edL)) (hm : MapM h m (rV r)) (hml : m < h.next) :
    ∃ h', zbj F (fnV n_f) [.map (some m), gV st lb sl, .int .i64 a, .int .i64 b, .int .i64 round] h = some (zcn (zbf r es a b round), h') ∧ Fr h h' := by
  suffices hr : Ret F (fnV n_f) [.map (some m), gV st lb sl, .int .i64 a, .int .i64 b, .int .i64 round] h fun v h' => v = zcn (zbf r es a b round) ∧ Fr h h' by
    obtain ⟨v, h', e, rfl, hf⟩ := hr; exact ⟨h', e, hf⟩
  obtain ⟨P, hPd⟩ : ∃ P : Value → H → Prop, P = fun v h' => v = zcn (zbf r es a b round) ∧ Fr h h' := ⟨_, rfl⟩
  rw [← hPd]
  refine Ret.fn F_f 5 (by decide) ?_
  rw [s_f]
  have hv := hrow.slvM
  obtain ⟨q, eq⟩ : ∃ q, q = h.next := ⟨_, rfl⟩
  obtain ⟨h2, eh2⟩ : ∃ h2, h2 = ((((((((h.new (.cells [.map (some m)] 0)).new (.cells (gL st lb sl) 0)).new (.cells [.int .i64 b] 0)).new (.cells [.int .i64 round] 0)).new (.cells (edL (0, 0, 0)) 0)).new (.cells [.bool false] 0)).new (.cells (gL st lb sl) 0)).new (.cells [.int .i64 a] 0)).new (.loop .ready none (slF1 h.next) zdz) := ⟨_, rfl⟩
  simp (disch := first | omega | (simp only [za, zb]; done) | (simp only [za, zb]; omega)) [hv.clean, hv.take, steps_ok]
  rw [← eh2, ← eq]
  have hf2 : Fr h h2 := by rw [eh2]; exact ((((((((Fr.new _ _).newR _).newR _).newR _).newR _).newR _).newR _).newR _).newR _
  have hn2 : h2.next = q + 9 := by rw [eh2, eq]; simp
  have k0 : h2.get q = some (.cells [.map (some m)] 0) := by rw [eh2, eq]; simp (disch := first | omega | (simp only [za, zb]; done) | (simp only [za, zb]; omega)) []
  have k1 : h2.get (q + 1) = some (.cells (gL st lb sl) 0) := by rw [eh2, eq]; simp (disch := first | omega | (simp only [za, zb]; done) | (simp only [za, zb]; omega)) []
  have k2' : h2.get (q + 1 + 1) = some (.cells [.int .i64 b] 0) := by rw [eh2, eq]; simp (disch := first | omega | (simp only [za, zb]; done) | (simp only [za, zb]; omega)) []
  have k3 : h2.get (q + 1 + 1 + 1) = some (.cells [.int .i64 round] 0) := by rw [eh2, eq]; simp (disch := first | omega | (simp only [za, zb]; done) | (simp only [za, zb]; omega)) []
  have k4 : h2.get (q + 1 + 1 + 1 + 1) = some (.cells (edL (0, 0, 0)) 0) := by rw [eh2, eq]; simp (disch := first | omega | (simp only [za, zb]; done) | (simp only [za, zb]; omega)) []
  have k5 : h2.get (q + 1 + 1 + 1 + 1 + 1) = some (.cells [.bool false] 0) := by rw [eh2, eq]; simp (disch := first | omega | (simp only [za, zb]; done) | (simp only [za, zb]; omega)) []
  have gg2 : h2.get (q + 1 + 1 + 1 + 1 + 1 + 1) = some (.cells (gL st lb sl) 0) := by rw [eh2, eq]; simp (disch := first | omega | (simp only [za, zb]; done) | (simp only [za, zb]; omega)) []
  have gf2 : h2.get (q + 1 + 1 + 1 + 1 + 1 + 1 + 1) = some (.cells [.int .i64 a] 0) := by rw [eh2, eq]; simp (disch := first | omega | (simp only [za, zb]; done) | (simp only [za, zb]; omega)) []
  have gL2 : h2.get (q + 1 + 1 + 1 + 1 + 1 + 1 + 1 + 1) = some (.loop .ready none (slF1 q) zdz) := by rw [eh2, eq]; simp (disch := first | omega | (simp only [za, zb]; done) | (simp only [za, zb]; omega)) []
  obtain ⟨L, eL⟩ : ∃ L, L = q + 1 + 1 + 1 + 1 + 1 + 1 + 1 + 1 := ⟨_, rfl⟩
  rw [← eL] at gL2 ⊢
  have hm2 := hm.fr (D := fun _ => False) hf2.D hml (by simp)
  refine OkV.call (zhp es hs hsz a st lb (.func (.yield L) #[] #[]) sl (q + 1 + 1 + 1 + 1 + 1 + 1) (q + 1 + 1 + 1 + 1 + 1 + 1 + 1) h2 (M := fun j => j = L ∨ j = q + 4 ∨ j = q + 5) (hrow.fr hf2) (by omega) (by omega) (fun b o n c e => by have := hrow.lt e; omega) (by omega) gg2 (by omega) gf2
    (fun i h1 => h1.get L = some (.loop .ready none (slF1 q) zdz) ∧ h1.get (q + 4) = some (.cells (edL (0, 0, 0)) 0) ∧ h1.get (q + 5) = some (.cells [.bool false] 0) ∧ FrD (fun j => j = L ∨ j = q + 4 ∨ j = q + 5) h2 h1 ∧ ∀ x ∈ (outs es a).take i, zft r es x b round = false)
    (fun h1 => ∃ x, h1.get L = some (.loop .done (some .ret) (slF1 q) zdz) ∧ h1.get (q + 4) = some (.cells (edL x) 0) ∧ h1.get (q + 5) = some (.cells [.bool true] 0) ∧ zbf r es a b round = some x) h2.next (Nat.le_refl _) ?_ ?_ ?_
    (P := fun _ h' => FrD (fun j => j = L ∨ j = q + 4 ∨ j = q + 5) h2 h' ∧ ((h'.get L = some (.loop .ready none (slF1 q) zdz) ∧ h'.get (q + 4) = some (.cells (edL (0, 0, 0)) 0) ∧ h'.get (q + 5) = some (.cells [.bool false] 0) ∧ zbf r es a b round = none) ∨ ∃ x, h'.get L = some (.loop .done (some .ret) (slF1 q) zdz) ∧ h'.get (q + 4) = some (.cells (edL x) 0) ∧ h'.get (q + 5) = some (.cells [.bool true] 0) ∧ zbf r es a b round = some x)) ?_) ?_
  · rintro i h1 h3 ⟨q1, q2, q3, q4, q5⟩ hf
    have := q4.next
    exact ⟨(hf.get _ (by omega)).trans q1, (hf.get _ (by omega)).trans q2, (hf.get _ (by omega)).trans q3, q4.trans hf.D, q5⟩
  · rintro i v h1 hv ⟨q1, q2, q3, q4, q5⟩ hn
    rw [List.getElem?_map] at hv
    obtain ⟨x, hx, rfl⟩ := Option.map_eq_some_iff.1 hv
    refine first_round es hs hsz st lb r m x b round sl L q h1 ((hrow.fr hf2).frD q4 (fun b o n c e => by have := hrow.lt e; omega)) (fun b o n c e => by have := hrow.lt e; omega) (hm2.fr q4 (by omega) (by omega)) (by omega) q1 (by omega) ((q4.get _ (by omega) (by omega)).trans k0) ((q4.get _ (by omega) (by omega)).trans k1) ((q4.get _ (by omega) (by omega)).trans k2') ((q4.get _ (by omega) (by omega)).trans k3) q2 q3 (by omega) ?_ ?_
    · intro e h' r1 r2 r3 r4
      refine ⟨r1, .inl ⟨rfl, r2, r3, r4, q4.trans r1, fun y hy => ?_⟩⟩
      rw [List.take_add_one, hx] at hy
      rcases List.mem_append.1 hy with hy | hy
      · exact q5 y hy
      · simp at hy; subst hy; exact e
    · intro e h' r1 r2 r3 r4
      exact ⟨r1, .inr ⟨rfl, x, r2, r3, r4, find_at hx q5 e⟩⟩
  · exact ⟨gL2, k4, k5, .refl _ _, by simp⟩
  · intro h' hf hv
    refine ⟨hf, ?_⟩
    rcases hv with ⟨q1, q2, q3, q4, q5⟩ | ⟨x, q1, q2, q3, q4⟩
    · rw [List.take_length] at q5
      exact .inl ⟨q1, q2, q3, find_none q5⟩
    · exact .inr ⟨x, q1, q2, q3, q4⟩
  · rintro v h' ⟨hf, hv⟩
    have hfn := hf.next
    have hfin : ∀ o, Fr h (h'.put L o) := fun o => ⟨by simp; have := hf2.next; omega, fun i hi => by
      rw [zk (by omega), hf.get _ (by have := hf2.next; omega) (by omega)]; exact hf2.get _ hi⟩
    have hfin' : ∀ o o1 o2, Fr h (((h'.put L o).put (q + 1 + 1 + 1 + 1) o1).put (q + 1 + 1 + 1 + 1 + 1) o2) := fun o o1 o2 => ((hfin o).put (by omega) _).put (by omega) _
    rcases hv with ⟨q1, q2, q3, q4⟩ | ⟨x, q1, q2, q3, q4⟩
    · rw [zd6 q1, s_f_0]
      refine OkV.eq (OkV.val (v := zcn none) (h := ((h'.put L (.loop .exhausted none (slF1 q) zdz)).put (q + 1 + 1 + 1 + 1) (.cells (edL (0, 0, 0)) 0)).put (q + 1 + 1 + 1 + 1 + 1) (.cells [.bool false] 0)) (by rw [hPd]; exact ⟨by rw [q4], hfin' _ _ _⟩)) ?_
      have q2' : h'.get (q + 1 + 1 + 1 + 1) = some (.cells (edL (0, 0, 0)) 0) := q2
      have q3' : h'.get (q + 1 + 1 + 1 + 1 + 1) = some (.cells [.bool false] 0) := q3
      simp (disch := first | omega | (simp only [za, zb]; done) | (simp only [za, zb]; omega)) [q2', q3', zn, zcn, zcn.pairV']
    · rw [rgP_ret q1]
      refine OkV.eq (OkV.val (v := zcn (some x)) (h := h'.put L (.loop .exhausted (some .ret) (slF1 q) zdz)) (by rw [hPd]; exact ⟨by rw [q4], hfin _⟩)) ?_
      have q2' : h'.get (q + 1 + 1 + 1 + 1) = some (.cells (edL x) 0) := q2
      have q3' : h'.get (q + 1 + 1 + 1 + 1 + 1) = some (.cells [.bool true] 0) := q3
      simp (disch := first | omega | (simp only [za, zb]; done) | (simp only [za, zb]; omega)) [q2', q3', zn, zcn, zcn.pairV']
end Go.Ideal.J
namespace Go.Ideal.J
open Go Go.Ideal
def zcu (r : Int → Int → Option Int) (es : List Ed) (n : Int) (a b : Int) : Bool := (r a b).isNone && ((zbf r es a b (n - 1)).isSome || (zbf r es b a (n - 1)).isSome)
def fndA (r : Int → Int → Option Int) (es : List Ed) (n : Int) (a b : Nat) : List (Int × Int) := ((List.range b).filter fun (b : Nat) => zcu r es n (a : Int) (b : Int)).map fun (b : Nat) => ((a : Int), (b : Int))
def fnd (r : Int → Int → Option Int) (es : List Ed) (n : Int) (a : Nat) : List (Int × Int) := (List.range a).flatMap fun a => fndA r es n a a
theorem fndA_succ (r : Int → Int → Option Int) (es : List Ed) (n : Int) (a b : Nat) : fndA r es n a (b + 1) = fndA r es n a b ++ if zcu r es n a b then [((a : Int), (b : Int))] else [] := by
  unfold fndA
  rw [List.range_succ, List.filter_append, List.map_append]
  congr 1
  by_cases e : zcu r es n (a : Int) (b : Int) = true
  · rw [if_pos e]; simp [e]
  · rw [if_neg e]; simp [e]
theorem fnd_succ (r : Int → Int → Option Int) (es : List Ed) (n : Int) (a : Nat) : fnd r es n (a + 1) = fnd r es n a ++ fndA r es n a a := by
  unfold fnd
  rw [List.range_succ, List.flatMap_append]
  simp
theorem fndA_len (r : Int → Int → Option Int) (es : List Ed) (n : Int) (a b : Nat) : (fndA r es n a b).length ≤ b := by
  unfold fndA
  rw [List.length_map]
  exact Nat.le_trans (List.length_filter_le _ _) (by simp)
theorem fnd_len (r : Int → Int → Option Int) (es : List Ed) (n : Int) {N : Nat} : ∀ a, a ≤ N → (fnd r es n a).length ≤ a * N
  | 0, _ => by simp [fnd]
  | a + 1, h => by
    rw [fnd_succ, List.length_append, Nat.succ_mul]
    have := fnd_len r es n (N := N) a (by omega)
    have := fndA_len r es n a a
    omega
abbrev prL (p : Int × Int) : List Value := [.int .i64 p.1, .int .i64 p.2]
theorem apart5 (es : List Ed) (hs : zZ es) (hsz : es.length ≤ 1000) (N : Nat) (hN : N ≤ 200) (lb : Int) (r : Int → Int → Option Int) (n : Int) (hn : 1 ≤ n ∧ n ≤ 1000000) (m pg : Nat) (sl : Value) (a : Nat) (haN : a < N) (rows : List (Int × Int)) (hrows : rows.length ≤ 100000) (h0 : H) (hrow : Row h0 3 sl (es.map edL)) (hm : MapM h0 m (rV r)) (hml : m < h0.next) (hgg : h0.get pg = some (.cells (gL (N : Int) lb sl) 0)) (hpg : pg < h0.next) (lo : Nat) (hlo : lo ≤ h0.next) (hmlo : m < lo) (hpglo : pg < lo) (hsllo : ∀ b o n c, sl = .slice (some ⟨b, o, none⟩) n c → b < lo) {P : Value → H → Prop}
    (hP : ∀ h' fv ob, FrD (fun j => lo ≤ j) h0 h' → Grow h' 2 fv ((rows ++ fndA r es n a a).map prL) ob → (∀ q, ob = some q → lo ≤ q) → OkV (sh (rI F) zg3 (K_d_4 (rI F)) (setL [p1, p3, p4, p5, p18, p19] [ptr pg, .map (some m), .int .i64 n, fv, .int .i64 (N : Int), .int .i64 (a : Int)]) h') P) :
    ∀ (k b : Nat) (h : H) (fv : Value) (ob : Option Nat), b + k = a → FrD (fun j => lo ≤ j) h0 h → Grow h 2 fv ((rows ++ fndA r es n a b).map prL) ob → (∀ q, ob = some q → lo ≤ q) →
    OkV (sh (rI F) zg2 (K_d_5 (rI F)) (setL [p1, p3, p4, p5, p6, p18, p19, p22, p23] [ptr pg, .map (some m), .int .i64 n, fv, .int .i64 (a : Int), .int .i64 (N : Int), .int .i64 (a : Int), .int .i64 (a : Int), .int .i64 (b : Int)]) h) P := by
  intro k
  induction k with
  | zero =>
    intro b h fv ob hb hf hg hob
    have e : b = a := by omega
    subst e
    rw [s_d_5]
    simp (disch := first | omega | (simp only [za, zb]; done) | (simp only [za, zb]; omega)) []
    exact hP h fv ob hf hg hob
  | succ k ih =>
    intro b h fv ob hb hf hg hob
    have hba : b < a := by omega
    have hfn := hf.next
    have hsucc := fndA_succ r es n a b
    have hv := hrow.slvM
    have hm1 := hm.fr hf hml (by omega)
    have hrow1 := hrow.frD hf (fun b o n c e => by have := hsllo b o n c e; omega)
    have gpg := (hf.get _ hpg (by omega)).trans hgg
    have hlk := look_ok hm1 (.int .i64 0) (a : Int) (b : Int)
    rw [s_d_5]
    have skip : zcu r es n a b = false → ∀ h', Fr h h' → OkV (sh (rI F) zib (K_d_6 (rI F)) (setL [p1, p3, p4, p5, p6, p18, p19, p22, p23] [ptr pg, .map (some m), .int .i64 n, fv, .int .i64 (a : Int), .int .i64 (N : Int), .int .i64 (a : Int), .int .i64 (a : Int), .int .i64 (b : Int)]) h') P := by
      intro hc h' hf'
      rw [s_d_6]
      have := ih (b + 1) h' fv ob (by omega) (hf.trans hf'.D) (by rw [hsucc, hc]; simpa using hg.fr hf') hob
      refine OkV.eq (this.lp (l_d_5 F _ _ _ _ _ _ _ _ _ _)) ?_
      simp (disch := first | omega | (simp only [za, zb]; done) | (simp only [za, zb]; omega)) [zH]
    cases hr : r a b with
    | some v =>
      simp only [rV, hr, Option.map_none, Option.map_some, Option.getD_none, Option.getD_some, Option.isSome_none, Option.isSome_some] at hlk
      refine OkV.eq (skip (by simp [zcu, hr]) h (.refl _)) ?_
      simp (disch := first | omega | (simp only [za, zb]; done) | (simp only [za, zb]; omega)) [hba, hlk, zn]
    | none =>
      simp only [rV, hr, Option.map_none, Option.map_some, Option.getD_none, Option.getD_some, Option.isSome_none, Option.isSome_some] at hlk
      obtain ⟨h1, e1, hf1⟩ := first_ok es hs hsz (N : Int) lb r m (a : Int) (b : Int) (n - 1) sl h hrow1 hm1 (by omega)
      have hfn1 := hf1.next
      have take : zcu r es n a b = true → ∀ h', Fr h h' → OkV (sh (rI F) c_d_7 (K_d_7 (rI F)) (setL [p1, p3, p4, p5, p6, p7, p11, p18, p19, p22, p23] [ptr pg, .map (some m), .int .i64 n, fv, .int .i64 (a : Int), .int .i64 (b : Int), .bool true, .int .i64 (N : Int), .int .i64 (a : Int), .int .i64 (a : Int), .int .i64 (b : Int)]) h') P := by
        intro hc h' hf'
        rw [s_d_7]
        simp (disch := first | omega | (simp only [za, zb]; done) | (simp only [za, zb]; omega)) [zn, zo]
        obtain ⟨h2, eh2⟩ : ∃ h2, h2 = h'.new (.cells [.int .i64 (a : Int), .int .i64 (b : Int)] 0) := ⟨_, rfl⟩
        have hf2 : Fr h h2 := by rw [eh2]; exact hf'.newR _
        have hn2 : h2.next = h'.next + 1 := by rw [eh2]; simp
        have hfn' := hf'.next
        have hfl := fndA_len r es n a b
        obtain ⟨h3, fv', ea, hg3, hn3, hf3⟩ := zcg (h := h2) (sz := 2) (bytes := 16) (r := prL ((a : Int), (b : Int))) (b := h'.next) (e := 0) (by omega) (by decide) (hg.fr hf2) (by rw [eh2]; simp) rfl rfl rfl (by rw [List.length_map, List.length_append]; omega)
        rw [← eh2, ea]
        simp (disch := first | omega | (simp only [za, zb]; done) | (simp only [za, zb]; omega)) []
        rw [s_d_6]
        have := ih (b + 1) h3 fv' (some h2.next) (by omega) ⟨by omega, fun i hi hd => (hf3.get _ (by omega) (fun e => hd (hob _ e))).trans ((hf2.get _ (by omega)).trans (hf.get _ hi hd))⟩ (by rw [hsucc, if_pos hc, ← List.append_assoc, List.map_append]; exact hg3) (fun q e => by cases e; omega)
        refine OkV.eq (this.lp (l_d_5 F _ _ _ _ _ _ _ _ _ _)) ?_
        simp (disch := first | omega | (simp only [za, zb]; done) | (simp only [za, zb]; omega)) [zH]
      have leave : zcu r es n a b = false → ∀ h', Fr h h' → OkV (sh (rI F) c_d_7 (K_d_7 (rI F)) (setL [p1, p3, p4, p5, p6, p7, p11, p18, p19, p22, p23] [ptr pg, .map (some m), .int .i64 n, fv, .int .i64 (a : Int), .int .i64 (b : Int), .bool false, .int .i64 (N : Int), .int .i64 (a : Int), .int .i64 (a : Int), .int .i64 (b : Int)]) h') P := by
        intro hc h' hf'
        rw [s_d_7]
        simp (disch := first | omega | (simp only [za, zb]; done) | (simp only [za, zb]; omega)) []
        exact skip hc h' hf'
      cases h1c : zbf r es a b (n - 1) with
      | some x =>
        rw [h1c] at e1
        have hf1' : Fr h (h1.new (.cells (edL x) 0)) := hf1.newR _
        refine OkV.eq (take (by simp [zcu, hr, h1c]) _ hf1') ?_
        simp only [zcn, zcn.pairV'] at e1
        simp (disch := first | omega | (simp only [za, zb]; done) | (simp only [za, zb]; omega)) [hba, hlk, zn, gpg, hv.clean, hv.take, zgh, e1]
      | none =>
        rw [h1c] at e1
        simp only [zcn, zcn.pairV'] at e1
        have hf1' : Fr h (h1.new (.cells (edL (0, 0, 0)) 0)) := hf1.newR _
        obtain ⟨h2, e2, hf2⟩ := first_ok es hs hsz (N : Int) lb r m (b : Int) (a : Int) (n - 1) sl (h1.new (.cells (edL (0, 0, 0)) 0)) (hrow1.fr hf1') (hm1.fr (D := fun _ => False) hf1'.D (by omega) (by simp)) (by simp; omega)
        have gpg1 := (hf1.get _ (by omega)).trans gpg
        cases h2c : zbf r es b a (n - 1) with
        | some x =>
          rw [h2c] at e2
          simp only [zcn, zcn.pairV'] at e2
          refine OkV.eq (take (by simp [zcu, hr, h1c, h2c]) _ (hf1'.trans hf2)) ?_
          simp (disch := first | omega | (simp only [za, zb]; done) | (simp only [za, zb]; omega)) [hba, hlk, zn, gpg, gpg1, hv.clean, hv.take, zgh, e1, e2]
        | none =>
          rw [h2c] at e2
          simp only [zcn, zcn.pairV'] at e2
          refine OkV.eq (leave (by simp [zcu, hr, h1c, h2c]) _ (hf1'.trans hf2)) ?_
          simp (disch := first | omega | (simp only [za, zb]; done) | (simp only [za, zb]; omega)) [hba, hlk, zn, gpg, gpg1, hv.clean, hv.take, zgh, e1, e2]
end Go.Ideal.J
namespace Go.Ideal.J
open Go Go.Ideal
def setR (r : Int → Int → Option Int) (n : Int) (p : Int × Int) : Int → Int → Option Int := fun c d => if (c = p.1 ∧ d = p.2) ∨ (c = p.2 ∧ d = p.1) then some n else r c d
def zcF (r : Int → Int → Option Int) (n : Int) (l : List (Int × Int)) : Int → Int → Option Int := l.foldl (fun r p => setR r n p) r
theorem rV_set (r : Int → Int → Option Int) (n : Int) (p : Int × Int) : upd2 (upd2 (rV r) p.1 p.2 (.int .i64 n)) p.2 p.1 (.int .i64 n) = rV (setR r n p) := by
  funext c d
  unfold upd2 setR rV; dsimp only
  by_cases h1 : c = p.2 ∧ d = p.1
  · rw [if_pos h1, if_pos (.inr h1)]; rfl
  · rw [if_neg h1]
    by_cases h2 : c = p.1 ∧ d = p.2
    · rw [if_pos h2, if_pos (.inl h2)]; rfl
    · rw [if_neg h2, if_neg (fun h => h.elim h2 h1)]
theorem zbt (n : Int) : ∀ (l : List (Int × Int)) (r : Int → Int → Option Int) (c d : Int), zcF r n l c d = if (c, d) ∈ l ∨ (d, c) ∈ l then some n else r c d
  | [], r, c, d => by simp [zcF]
  | p :: l, r, c, d => by
    show zcF (setR r n p) n l c d = _
    rw [zbt n l]
    by_cases h : (c, d) ∈ l ∨ (d, c) ∈ l
    · rw [if_pos h, if_pos (h.imp (fun h => List.mem_cons_of_mem _ h) (fun h => List.mem_cons_of_mem _ h))]
    · rw [if_neg h]
      unfold setR
      by_cases h2 : (c = p.1 ∧ d = p.2) ∨ (c = p.2 ∧ d = p.1)
      · rw [if_pos h2, if_pos]
        rcases h2 with ⟨rfl, rfl⟩ | ⟨rfl, rfl⟩
        · exact .inl (by simp)
        · exact .inr (by simp)
      · rw [if_neg h2, if_neg]
        rintro (h3 | h3)
        · rcases List.mem_cons.1 h3 with h3 | h3
          · exact h2 (.inl ⟨by rw [← h3], by rw [← h3]⟩)
          · exact h (.inl h3)
        · rcases List.mem_cons.1 h3 with h3 | h3
          · exact h2 (.inr ⟨by rw [← h3], by rw [← h3]⟩)
          · exact h (.inr h3)
def rN (es : List Ed) (N : Nat) : Nat → Int → Int → Option Int
  | 0 => fun _ _ => none
  | k + 1 => zcF (rN es N k) ((k : Int) + 1) (fnd (rN es N k) es ((k : Int) + 1) N)
def allP (N : Nat) : List (Nat × Nat) := (List.range N).flatMap fun a => (List.range a).map fun b => (a, b)
def meas (N : Nat) (r : Int → Int → Option Int) : Nat := (allP N).countP fun p => (r p.1 p.2).isNone
theorem countP_le {α : Type} {p q : α → Bool} : ∀ {l : List α}, (∀ x ∈ l, q x = true → p x = true) → l.countP q ≤ l.countP p
  | [], _ => by simp
  | a :: l, h => by
    have ih := countP_le (l := l) fun x hx => h x (by simp [hx])
    have ha := h a (by simp)
    rw [List.countP_cons, List.countP_cons]
    cases hq : q a
    · simp; omega
    · rw [ha hq]; simp; omega
theorem countP_lt {α : Type} {p q : α → Bool} : ∀ {l : List α}, (∀ x ∈ l, q x = true → p x = true) → (∃ x ∈ l, p x = true ∧ q x = false) → l.countP q < l.countP p
  | [], _, ⟨x, hx, _⟩ => by cases hx
  | a :: l, h, ⟨x, hx, h1, h2⟩ => by
    have hle := countP_le (l := l) fun x hx => h x (by simp [hx])
    have ha := h a (by simp)
    rw [List.countP_cons, List.countP_cons]
    rcases List.mem_cons.1 hx with rfl | hx
    · rw [h1, h2]; simp; omega
    · have := countP_lt (l := l) (fun x hx => h x (by simp [hx])) ⟨x, hx, h1, h2⟩
      cases hq : q a
      · simp; omega
      · rw [ha hq]; simp; omega
theorem mem_allP {N a b : Nat} : (a, b) ∈ allP N ↔ a < N ∧ b < a := by
  unfold allP
  rw [List.mem_flatMap]
  constructor
  · rintro ⟨a', h1, h2⟩
    obtain ⟨b', h3, h4⟩ := List.mem_map.1 h2
    cases h4
    exact ⟨List.mem_range.1 h1, List.mem_range.1 h3⟩
  · rintro ⟨h1, h2⟩
    exact ⟨a, List.mem_range.2 h1, List.mem_map.2 ⟨b, List.mem_range.2 h2, rfl⟩⟩
theorem zc8 {r : Int → Int → Option Int} {es : List Ed} {n : Int} {N : Nat} {p : Int × Int} : p ∈ fnd r es n N ↔ ∃ a b : Nat, p = ((a : Int), (b : Int)) ∧ a < N ∧ b < a ∧ zcu r es n a b = true := by
  unfold fnd fndA
  rw [List.mem_flatMap]
  constructor
  · rintro ⟨a, h1, h2⟩
    obtain ⟨b, h3, rfl⟩ := List.mem_map.1 h2
    obtain ⟨h4, h5⟩ := List.mem_filter.1 h3
    exact ⟨a, b, rfl, List.mem_range.1 h1, List.mem_range.1 h4, h5⟩
  · rintro ⟨a, b, rfl, h1, h2, h3⟩
    exact ⟨a, List.mem_range.2 h1, List.mem_map.2 ⟨b, List.mem_filter.2 ⟨List.mem_range.2 h2, h3⟩, rfl⟩⟩
theorem meas_lt {r : Int → Int → Option Int} {es : List Ed} {n : Int} {N : Nat} (h : fnd r es n N ≠ []) : meas N (zcF r n (fnd r es n N)) < meas N r := by
  unfold meas
  refine countP_lt (fun x hx hq => ?_) ?_
  · rw [zbt] at hq
    split at hq
    · cases hq
    · exact hq
  · obtain ⟨p, l, e⟩ := List.exists_cons_of_ne_nil h
    have hp : p ∈ fnd r es n N := by rw [e]; simp
    obtain ⟨a, b, rfl, h1, h2, h3⟩ := zc8.1 hp
    refine ⟨(a, b), mem_allP.2 ⟨h1, h2⟩, ?_, ?_⟩
    · unfold zcu at h3
      rw [Bool.and_eq_true] at h3
      exact h3.1
    · rw [zbt, if_pos (.inl hp)]; rfl
theorem apart8 (n : Int) (m pg : Nat) (l : List (Int × Int)) (hl : l.length ≤ 100000) (fv : Value) (h0 : H) (hrow : Row h0 2 fv (l.map prL)) (hfm : ∀ b o n c, fv = .slice (some ⟨b, o, none⟩) n c → b ≠ m) (hml : m < h0.next) {P : Value → H → Prop} (r : Int → Int → Option Int)
    (hP : ∀ h', FrD (fun j => j = m) h0 h' → MapM h' m (rV (zcF r n l)) → OkV (sh (rI F) c_d_1 (K_d_1 (rI F)) (setL [p1, p3, p4] [ptr pg, .map (some m), .int .i64 n]) h') P) :
    ∀ (k i : Nat) (h : H), i + k = l.length → FrD (fun j => j = m) h0 h → MapM h m (rV (zcF r n (l.take i))) →
    OkV (sh (rI F) zg1 (K_d_8 (rI F)) (setL [p1, p3, p4, p70, p71, p72] [ptr pg, .map (some m), .int .i64 n, fv, .int .i64 (l.length : Int), .int .i64 (i : Int)]) h) P := by
  intro k
  induction k with
  | zero =>
    intro i h hi hf hm
    have e : i = l.length := by omega
    subst e
    rw [List.take_length] at hm
    rw [s_d_8]
    simp (disch := first | omega | (simp only [za, zb]; done) | (simp only [za, zb]; omega)) []
    exact hP h hf hm
  | succ k ih =>
    intro i h hi hf hm
    have hil : i < l.length := by omega
    have hx : (l.map prL)[i]? = some (prL l[i]) := by simp [hil]
    have htk : l.take (i + 1) = l.take i ++ [l[i]] := by rw [List.take_add_one, List.getElem?_eq_getElem hil]; rfl
    obtain ⟨b, o, cs, e, hv, hb, hg, htc⟩ := (hrow.frD hf hfm).index hx
    generalize l[i] = p at *
    obtain ⟨p1', p2'⟩ := p
    have hfn := hf.next
    obtain ⟨h1, eh1⟩ : ∃ h1, h1 = h.new (.cells [.int .i64 p1', .int .i64 p2'] 0) := ⟨_, rfl⟩
    have hf1 : Fr h h1 := by rw [eh1]; exact .new _ _
    have hn1 : h1.next = h.next + 1 := by rw [eh1]; simp
    have gp1 : h1.get h.next = some (.cells [.int .i64 p1', .int .i64 p2'] 0) := by rw [eh1]; simp
    obtain ⟨o1, e1, hm1⟩ := upd_ok (hm.fr (D := fun _ => False) hf1.D (by omega) (by simp)) p1' p2' (.int .i64 n)
    have gp2 : (h1.put m o1).get h.next = some (.cells [.int .i64 p1', .int .i64 p2'] 0) := by rw [zk (by omega)]; exact gp1
    obtain ⟨o2, e2, hm2⟩ := upd_ok hm1 p2' p1' (.int .i64 n)
    rw [put_put] at e2 hm2
    rw [rV_set _ n (p1', p2')] at hm2
    have := ih (i + 1) (h1.put m o2) (by omega) ((hf.trans hf1.D).put (.inr rfl) _) (by
      rw [htk]
      show MapM _ _ (rV ((l.take i ++ [(p1', p2')]).foldl (fun r p => setR r n p) r))
      rw [List.foldl_append]; exact hm2)
    rw [s_d_8]
    refine OkV.eq (this.lp (l_d_8 F _ _ _ _ _ _ _)) ?_
    have a1 : ∀ h' : H, zI 2 1 (ptr h.next) (.int .i64 1) h' = some (.pointer (some ⟨h.next, 0 + 1 * 1, none⟩), h') := fun h' => rfl
    have a0 : ∀ h' : H, zI 2 1 (ptr h.next) (.int .i64 0) h' = some (.pointer (some ⟨h.next, 0 + 0 * 1, none⟩), h') := fun h' => rfl
    simp (disch := first | omega | (simp only [za, zb]; done) | (simp only [za, zb]; omega)) [hil, hv, hg, htc, ← eh1, gp1, e1, gp2, zn, e2, zH, a1, a0]
theorem apart3 (es : List Ed) (hs : zZ es) (hsz : es.length ≤ 1000) (N : Nat) (hN : N ≤ 200) (lb : Int) (r : Int → Int → Option Int) (n : Int) (hn : 1 ≤ n ∧ n ≤ 1000000) (m pg : Nat) (sl : Value) (h0 : H) (hrow : Row h0 3 sl (es.map edL)) (hm : MapM h0 m (rV r)) (hml : m < h0.next) (hgg : h0.get pg = some (.cells (gL (N : Int) lb sl) 0)) (hpg : pg < h0.next) (lo : Nat) (hlo : lo ≤ h0.next) (hmlo : m < lo) (hpglo : pg < lo) (hsllo : ∀ b o n c, sl = .slice (some ⟨b, o, none⟩) n c → b < lo) {P : Value → H → Prop}
    (hP : ∀ h' fv ob, FrD (fun j => lo ≤ j) h0 h' → Grow h' 2 fv ((fnd r es n N).map prL) ob → (∀ q, ob = some q → lo ≤ q) → OkV (sh (rI F) zgo (ziB (rI F)) (setL [p1, p3, p4, p5] [ptr pg, .map (some m), .int .i64 n, fv]) h') P) :
    ∀ (k a : Nat) (h : H) (fv : Value) (ob : Option Nat), a + k = N → FrD (fun j => lo ≤ j) h0 h → Grow h 2 fv ((fnd r es n a).map prL) ob → (∀ q, ob = some q → lo ≤ q) →
    OkV (sh (rI F) zg4 (K_d_3 (rI F)) (setL [p1, p3, p4, p5, p18, p19] [ptr pg, .map (some m), .int .i64 n, fv, .int .i64 (N : Int), .int .i64 (a : Int)]) h) P := by
  intro k
  induction k with
  | zero =>
    intro a h fv ob ha hf hg hob
    have e : a = N := by omega
    subst e
    rw [s_d_3]
    simp (disch := first | omega | (simp only [za, zb]; done) | (simp only [za, zb]; omega)) []
    exact hP h fv ob hf hg hob
  | succ k ih =>
    intro a h fv ob ha hf hg hob
    have haN : a < N := by omega
    have hfn := hf.next
    have hfl := fnd_len r es n (N := N) a (by omega)
    have hNN : a * N ≤ 200 * 200 := Nat.mul_le_mul (by omega) hN
    rw [s_d_3]
    have := apart5 es hs hsz N hN lb r n hn m pg sl a haN (fnd r es n a) (by omega) h (hrow.frD hf (fun b o n c e => by have := hsllo b o n c e; omega)) (hm.fr hf hml (by omega)) (by omega) ((hf.get _ hpg (by omega)).trans hgg) (by omega) lo (by omega) hmlo hpglo hsllo (P := P)
      (fun h' fv' ob' hf' hg' hob' => by
        rw [s_d_4]
        have := ih (a + 1) h' fv' ob' (by omega) (hf.trans hf') (by rw [fnd_succ]; exact hg') hob'
        refine OkV.eq (this.lp (l_d_3 F _ _ _ _ _ _ _)) ?_
        simp (disch := first | omega | (simp only [za, zb]; done) | (simp only [za, zb]; omega)) [zH]) a 0 h fv ob (by omega) (.refl _ _) (by simpa [fndA] using hg) hob
    refine OkV.eq (this.lp (l_d_5 F _ _ _ _ _ _ _ _ _ _)) ?_
    simp (disch := first | omega | (simp only [za, zb]; done) | (simp only [za, zb]; omega)) [haN]
theorem apart0 (es : List Ed) (hs : zZ es) (hsz : es.length ≤ 1000) (N : Nat) (hN : N ≤ 200) (lb : Int) (m pg : Nat) (sl : Value) (h0 : H) (hrow : Row h0 3 sl (es.map edL)) (hml : m < h0.next) (hgg : h0.get pg = some (.cells (gL (N : Int) lb sl) 0)) (hpg : pg < h0.next) (hsl : ∀ b o n c, sl = .slice (some ⟨b, o, none⟩) n c → b ≠ m) (hpm : pg ≠ m) {P : Value → H → Prop}
    (hP : ∀ h' k, FrD (fun j => j = m) h0 h' → MapM h' m (rV (rN es N k)) → fnd (rN es N k) es ((k : Int) + 1) N = [] → P (.map (some m)) h') :
    ∀ (μ k : Nat) (h : H), meas N (rN es N k) = μ → k + μ ≤ 100000 → FrD (fun j => j = m) h0 h → MapM h m (rV (rN es N k)) →
    OkV (sh (rI F) zg5 (K_d_0 (rI F)) (setL [p1, p3, p4] [ptr pg, .map (some m), .int .i64 ((k : Int) + 1)]) h) P := by
  intro μ
  induction μ using Nat.strongRecOn with
  | _ μ ih =>
    intro k h hμ hk hf hm
    have hfn := hf.next
    have gpg := (hf.get _ hpg hpm).trans hgg
    have hrow1 := hrow.frD hf hsl
    rw [s_d_0]
    have := apart3 es hs hsz N hN lb (rN es N k) ((k : Int) + 1) (by omega) m pg sl h hrow1 hm (by omega) gpg (by omega) h.next (Nat.le_refl _) (by omega) (by omega) (fun b o n c e => hrow1.lt e) (P := P)
      (fun h' fv ob hf' hg' hob' => by
        have hfn' := hf'.next
        have hff : Fr h h' := hf'.fr (by omega)
        have hv := hg'.slvM
        rw [s_d_2]
        by_cases hnil : fnd (rN es N k) es ((k : Int) + 1) N = []
        · have hl0 : (fnd (rN es N k) es ((k : Int) + 1) N).length = 0 := by rw [hnil]; rfl
          refine OkV.eq (OkV.val (hP h' k (hf.trans hff.D) (hm.fr (D := fun _ => False) hff.D (by omega) (by simp)) hnil)) ?_
          simp (disch := first | omega | (simp only [za, zb]; done) | (simp only [za, zb]; omega)) [hv.len, hl0]
        · have hl0 : ¬ ((fnd (rN es N k) es ((k : Int) + 1) N).length : Int) = 0 := by
            have := List.length_pos_iff.2 hnil; omega
          have hfl := fnd_len (rN es N k) es ((k : Int) + 1) (N := N) N (Nat.le_refl _)
          have hNN : N * N ≤ 200 * 200 := Nat.mul_le_mul hN hN
          have hlt := meas_lt hnil
          have h8 := apart8 ((k : Int) + 1) m pg (fnd (rN es N k) es ((k : Int) + 1) N) (by omega) fv h' (hg'.row (by omega)) (fun b o n c e => by have := hob' _ (hg'.block e); omega) (by omega) (P := P) (rN es N k)
            (fun h'' hf'' hm'' => by
              rw [s_d_1]
              have := ih (meas N (rN es N (k + 1))) (by rw [← hμ]; exact hlt) (k + 1) h'' rfl (by
                have : meas N (rN es N (k + 1)) < μ := by rw [← hμ]; exact hlt
                omega) ((hf.trans hff.D).trans hf'') hm''
              refine OkV.eq (this.lp (l_d_0 F _ _ _ _)) ?_
              simp (disch := first | omega | (simp only [za, zb]; done) | (simp only [za, zb]; omega)) [zH]) (fnd (rN es N k) es ((k : Int) + 1) N).length 0 h' (by omega) (.refl _ _) (by simpa [zcF] using hm.fr (D := fun _ => False) hff.D (by omega) (by simp))
          refine OkV.eq (h8.lp (l_d_8 F _ _ _ _ _ _ _)) ?_
          have hl0' : ¬ (fnd (rN es N k) es ((k : Int) + 1) N) = [] := hnil
          simp (disch := first | omega | (simp only [za, zb]; done) | (simp only [za, zb]; omega)) [hv.len, hl0, hl0']) N 0 h (.slice none 0 0) none (by omega) (.refl _ _) (by simpa [fnd] using Grow.nil) (by simp)
    refine OkV.eq (this.lp (l_d_3 F _ _ _ _ _ _ _)) ?_
    simp (disch := first | omega | (simp only [za, zb]; done) | (simp only [za, zb]; omega)) [gpg]
theorem meas_le (N : Nat) (r : Int → Int → Option Int) : meas N r ≤ N * N := by
  have : (allP N).length ≤ N * N := by
    unfold allP
    have key : ∀ n, n ≤ N → ((List.range n).flatMap fun a => (List.range a).map fun b => (a, b)).length ≤ n * N := by
      intro n
      induction n with
      | zero => intro _; simp
      | succ n ih =>
        intro h
        rw [List.range_succ, List.flatMap_append, List.length_append, Nat.succ_mul]
        have := ih (by omega)
        simp only [List.flatMap_cons, List.flatMap_nil, List.append_nil, List.length_map, List.length_range]
        omega
    exact key N (Nat.le_refl _)
  exact Nat.le_trans List.countP_le_length this
theorem apart_ok (es : List Ed) (hs : zZ es) (hsz : es.length ≤ 1000) (N : Nat) (hN : N ≤ 200) (lb : Int) (sl : Value) (h : H) (hrow : Row h 3 sl (es.map edL)) {P : Value → H → Prop}
    (hP : ∀ h' m k, Fr h h' → h.next ≤ m → m < h'.next → MapM h' m (rV (rN es N k)) → fnd (rN es N k) es ((k : Int) + 1) N = [] → P (.map (some m)) h') : Ret F (fnV n_d) [gV (N : Int) lb sl] h P := by
  refine Ret.fn F_d 1 (by decide) ?_
  rw [s_d]
  obtain ⟨h2, eh2⟩ : ∃ h2, h2 = (h.new (.cells (gL (N : Int) lb sl) 0)).new (.map [] 0) := ⟨_, rfl⟩
  have hf2 : Fr h h2 := by rw [eh2]; exact (Fr.new _ _).newR _
  have hn2 : h2.next = h.next + 2 := by rw [eh2]; simp
  have hNN : N * N ≤ 200 * 200 := Nat.mul_le_mul hN hN
  have := apart0 es hs hsz N hN lb (h.next + 1) h.next sl h2 (hrow.fr hf2) (by omega) (by rw [eh2]; simp (disch := omega)) (by omega) (fun b o n c e => by have := hrow.lt e; omega) (by omega) (P := P) (fun h' k hf' hm' hk => hP h' (h.next + 1) k ⟨by have := hf'.next; omega, fun i hi => (hf'.get _ (by omega) (by omega)).trans (hf2.get _ hi)⟩ (by omega) (by have := hf'.next; omega) hm' hk) (meas N (rN es N 0)) 0 h2 rfl (by have := meas_le N (rN es N 0); omega) (.refl _ _) ⟨[], 0, by rw [eh2]; simp (disch := omega), .nil⟩
  refine OkV.eq (this.lp (l_d_0 F _ _ _ _)) ?_
  rw [eh2]
  simp (disch := first | omega | (simp only [za, zb]; done) | (simp only [za, zb]; omega)) []
end Go.Ideal.J
namespace Go.Ideal.J
open Go Go.Ideal
theorem both_ok (st lb st' lb' : Int) (es fs : List Ed) (sl sl' : Value) (h : H) (hrow : Row h 3 sl (es.map edL)) (hrow' : Row h 3 sl' (fs.map edL)) :
    ∃ h', zbj F (fnV n_N) [gV st lb sl, gV st' lb' sl'] h = some (.bool (chk st lb es && chk st' lb' fs && decide (lb = lb')), h') ∧ Fr h h' := by
  obtain ⟨h2, eh2⟩ : ∃ h2, h2 = (h.new (.cells (gL st lb sl) 0)).new (.cells (gL st' lb' sl') 0) := ⟨_, rfl⟩
  have hf2 : Fr h h2 := by rw [eh2]; exact (Fr.new _ _).newR _
  have hn2 : h2.next = h.next + 2 := by rw [eh2]; simp
  have g0 : h2.get h.next = some (.cells (gL st lb sl) 0) := by rw [eh2]; simp (disch := omega)
  have g1 : h2.get (h.next + 1) = some (.cells (gL st' lb' sl') 0) := by rw [eh2]; simp (disch := omega)
  have hv := hrow.slvM
  have hv' := hrow'.slvM
  obtain ⟨h3, e3, hf3⟩ := zfI st lb sl es h2 (hrow.fr hf2)
  have hfn3 := hf3.next
  have g03 := (hf3.get _ (by omega)).trans g0
  have g13 := (hf3.get _ (by omega)).trans g1
  cases hc : chk st lb es with
  | false =>
    rw [hc] at e3
    refine ⟨h3, zO F_N 2 (by decide) ?_, hf2.trans hf3⟩
    rw [s_N]
    simp (disch := first | omega | (simp only [za, zb]; done) | (simp only [za, zb]; omega)) [hv.clean, hv.take, hv'.clean, hv'.take, ← eh2, g0, g1, e3, erk]
  | true =>
    rw [hc] at e3
    obtain ⟨h4, e4, hf4⟩ := zfI st' lb' sl' fs h3 ((hrow'.fr hf2).fr hf3)
    have hfn4 := hf4.next
    have g04 := (hf4.get _ (by omega)).trans g03
    have g14 := (hf4.get _ (by omega)).trans g13
    refine ⟨h4, zO F_N 2 (by decide) ?_, (hf2.trans hf3).trans hf4⟩
    rw [s_N]
    cases hc' : chk st' lb' fs with
    | false =>
      rw [hc'] at e4
      simp (disch := first | omega | (simp only [za, zb]; done) | (simp only [za, zb]; omega)) [hv.clean, hv.take, hv'.clean, hv'.take, ← eh2, g0, g1, e3, erk, g13, e4]
    | true =>
      rw [hc'] at e4
      simp (disch := first | omega | (simp only [za, zb]; done) | (simp only [za, zb]; omega)) [hv.clean, hv.take, hv'.clean, hv'.take, ← eh2, g0, g1, e3, erk, g13, e4, g04, g14]
theorem zgR {h : H} {sz : Nat} {v : Value} {rows : List (List Value)} (hr : Row h sz v rows) (hl : ∀ r ∈ rows, r.length = sz ∧ r.all zX = true) : zb1 h sz v = some (rows.length, rows.flatten) := by
  cases hr with
  | nil => rfl
  | hole => rfl
  | @cells b off cap e cs rows hlt hg hrd hcap =>
    by_cases hz : rows = []
    · subst hz; rfl
    have hz' : ¬ Nat.beq rows.length 0 = true := fun e => hz (List.eq_nil_of_length_eq_zero (Nat.eq_of_beq_eq_true e))
    show (if Nat.beq rows.length 0 = true then some (0, []) else (h.readN b off (rows.length * sz)).map _) = _
    rw [if_neg hz', readN_of hg]
    have key : ∀ (rows : List (List Value)) (off : Nat), (∀ r ∈ rows, r.length = sz ∧ r.all zX = true) → (∀ i r, rows[i]? = some r → zY sz (zbw (off + i * sz) cs) = some r) → zY (rows.length * sz) (zbw off cs) = some rows.flatten := by
      intro rows
      induction rows with
      | nil => intro off _ _; simp [takeC_z]
      | cons r rows ih =>
        intro off hl hrd
        have h0 := hrd 0 r rfl
        rw [Nat.zero_mul, Nat.add_zero] at h0
        have h1 := ih (off + sz) (fun x hx => hl x (by simp [hx])) (fun i x hx => by
          have := hrd (i + 1) x (by simpa using hx)
          rwa [Nat.succ_mul, Nat.add_comm (i * sz) sz, ← Nat.add_assoc] at this)
        have hr := hl r (by simp)
        have t0 := (zca h0).1
        have t1 := (zca h1).1
        rw [zcY, zcA] at t0 t1
        split at t0
        · split at t1
          · rename_i l0 l1
            rw [List.flatten_cons, List.length_cons, Nat.succ_mul]
            have e0 := Option.some.inj t0
            have e1 := Option.some.inj t1
            refine takeC_of ?_ ?_
            · rw [zcY, zcA, if_pos (by rw [List.length_drop] at *; omega)]
              congr 1
              rw [Nat.add_comm, List.take_add, e0, List.drop_drop, e1]
            · rw [List.all_append, hr.2, zgj (fun x hx => (hl x (by simp [hx])).2)]; rfl
          · cases t1
        · cases t0
    rw [key rows off hl hrd]; rfl
theorem clone_ok (es : List Ed) (hsz : es.length ≤ 100000) (sl : Value) (h : H) (hrow : Row h 3 sl (es.map edL)) {P : Value → H → Prop} (hP : ∀ h' v ob, Fr h h' → Grow h' 3 v (es.map edL) ob → (∀ q, ob = some q → h.next ≤ q) → P v h') :
    Ret F (fnV n_l) [sl] h P := by
  refine Ret.fn F_l 1 (by decide) ?_
  rw [s_l]
  have hnil : ∀ a b h, vBin .eql .slice (.slice none a b) (.slice none 0 0) h = some (.bool true, h) := fun a b h => rfl
  have hsome : ∀ a n c h, vBin .eql .slice (.slice (some a) n c) (.slice none 0 0) h = some (.bool false, h) := fun a n c h => rfl
  have hapx := zgR (h := h.new (.cells [] 0)) (hrow.fr (Fr.new h (.cells [] 0))) (fun r hr => by obtain ⟨x, _, rfl⟩ := List.mem_map.1 hr; exact ⟨rfl, rfl⟩)
  obtain ⟨base, c, hsl⟩ := hrow.lenM
  cases hb : base with
  | none =>
    rw [hb] at hsl; subst hsl
    have hes : es = [] := by
      generalize hg : es.map edL = rows at hrow
      generalize hvv : (Value.slice none es.length c) = vv at hrow
      cases hrow with
      | nil => simpa using hg
      | hole => cases hvv
      | cells => cases hvv
    subst hes
    refine OkV.eq (OkV.val (hP h (.slice none 0 0) none (.refl _) .nil (by simp))) ?_
    simp (disch := first | omega | (simp only [za, zb]; done) | (simp only [za, zb]; omega)) [hnil]
  | some a =>
    rw [hb] at hsl; subst hsl
    have hfull : Grow (h.new (.cells [] 0)) 3 (.slice (some ⟨h.next, 0, none⟩) 0 0) [] (some h.next) := Grow.full (b := h.next) (e := 0) (rows := []) (by simp) (by simp) (by simp) (by decide)
    by_cases hnil' : es = []
    · subst hnil'
      refine OkV.eq (OkV.val (hP (h.new (.cells [] 0)) (.slice (some ⟨h.next, 0, none⟩) 0 0) (some h.next) (.new _ _) hfull (fun q e => by cases e; exact Nat.le_refl _))) ?_
      have hz : ∀ (x : Value) (h' : H) (nw : List Value), zb1 h' 3 x = some (0, nw) → bltV h' (.append 3 24) [.slice (some ⟨h.next, 0, none⟩) 0 0, x] = some (.slice (some ⟨h.next, 0, none⟩) 0 0, h') := by
        intro x h' nw e
        show (zb1 h' 3 x).bind _ = _
        rw [e]; rfl
      simp (disch := first | omega | (simp only [za, zb]; done) | (simp only [za, zb]; omega)) [hsome, zn, zo]
      have hz' := hz _ _ _ hapx
      rw [List.length_nil] at hz'
      rw [hz']
      simp (disch := first | omega | (simp only [za, zb]; done) | (simp only [za, zb]; omega)) []
    · obtain ⟨h2, v', ea, hg2, hn2, hf2⟩ := zfo (bytes := 24) (news := es.map edL) (by omega) (by decide) hfull (by simpa using hnil') (by rw [hapx]) (by
        rw [List.all_flatten]
        refine List.all_eq_true.2 fun r hr => ?_
        obtain ⟨x, _, rfl⟩ := List.mem_map.1 hr
        rfl) (fun r hr => by obtain ⟨x, _, rfl⟩ := List.mem_map.1 hr; exact ⟨rfl, rfl⟩) (by simp; omega)
      simp only [za] at hn2 hg2
      rw [List.nil_append] at hg2
      refine OkV.eq (OkV.val (hP h2 v' (some (h.next + 1)) ⟨by omega, fun i hi => (hf2.get _ (by simp; omega) (by simp; omega)).trans (zbg (by omega))⟩ hg2 (fun q e => by cases e; omega))) ?_
      simp (disch := first | omega | (simp only [za, zb]; done) | (simp only [za, zb]; omega)) [hsome, zn, zo]
      rw [ea]
      simp (disch := first | omega | (simp only [za, zb]; done) | (simp only [za, zb]; omega)) []
def shE (N : Nat) (x : Ed) : Ed := (x.1 + N, x.2.1 + N, x.2.2)
def zbm (N : Nat) (es fs : List Ed) : List Ed := es ++ fs.map (shE N)
theorem alike1 (N M : Nat) (hN : N ≤ 1000) (hM : M ≤ 1000) (lb lb' : Int) (es fs : List Ed) (hel : es.length ≤ 1000) (hfl : fs.length ≤ 1000) (hfin : inB (M : Int) fs) (sl sl' : Value) (q po : Nat) (h0 : H) (hrow : Row h0 3 sl' (fs.map edL)) (hsl : ∀ b o n c, sl' = .slice (some ⟨b, o, none⟩) n c → b < q) (hgg : h0.get q = some (.cells (gL (N : Int) lb sl) 0)) (hq : q < po) (hpo : po < h0.next) (lo : Nat) (hlo : q < lo) (hlo' : lo ≤ po) {P : Value → H → Prop}
    (hP : ∀ h' v ob, FrD (fun j => lo ≤ j) h0 h' → h'.get po = some (.cells [.int .i64 ((N : Int) + M), .int .i64 lb, v] 0) → Grow h' 3 v ((zbm N es fs).map edL) ob → OkV (sh (rI F) zgY (K_y_0 (rI F)) (setL [p2, p5] [ptr q, ptr po]) h') P) :
    ∀ (k i : Nat) (h : H) (v : Value) (ob : Option Nat), i + k = fs.length → FrD (fun j => lo ≤ j) h0 h → h.get po = some (.cells [.int .i64 ((N : Int) + M), .int .i64 lb, v] 0) → Grow h 3 v ((zbm N es (fs.take i)).map edL) ob → (∀ b, ob = some b → lo ≤ b ∧ b ≠ po) →
    OkV (sh (rI F) zgX (K_y_1 (rI F)) (setL [p2, p5, p22, p23, p24] [ptr q, ptr po, sl', .int .i64 (fs.length : Int), .int .i64 (i : Int)]) h) P := by
  intro k
  induction k with
  | zero =>
    intro i h v ob hi hf hgp hg hob
    have e : i = fs.length := by omega
    subst e
    rw [List.take_length] at hg
    rw [s_y_1]
    simp (disch := first | omega | (simp only [za, zb]; done) | (simp only [za, zb]; omega)) []
    exact hP h v ob hf hgp hg
  | succ k ih =>
    intro i h v ob hi hf hgp hg hob
    have hil : i < fs.length := by omega
    have hfn := hf.next
    have hx : (fs.map edL)[i]? = some (edL fs[i]) := by simp [hil]
    have htk : fs.take (i + 1) = fs.take i ++ [fs[i]] := by rw [List.take_add_one, List.getElem?_eq_getElem hil]; rfl
    have hxin := hfin _ (List.getElem_mem hil)
    obtain ⟨b, o, cs, e, hvi, hb, hgi, htc⟩ := (hrow.frD hf (fun b o n c e => by have := hsl b o n c e; omega)).index hx
    generalize fs[i] = x at *
    have hv := hg.slv
    have gq := (hf.get _ (by omega) (by omega)).trans hgg
    obtain ⟨h2, eh2⟩ : ∃ h2, h2 = (h.new (.cells (edL x) 0)).new (.cells (edL (shE N x)) 0) := ⟨_, rfl⟩
    have hf2 : Fr h h2 := by rw [eh2]; exact (Fr.new _ _).newR _
    have hn2 : h2.next = h.next + 2 := by rw [eh2]; simp
    obtain ⟨h3, v', ea, hg3, hn3, hf3⟩ := zcg (h := h2) (sz := 3) (bytes := 24) (r := edL (shE N x)) (b := h.next + 1) (e := 0) (by omega) (by decide) (hg.fr hf2) (by rw [eh2]; simp) rfl rfl rfl (by
      rw [List.length_map]; unfold zbm; rw [List.length_append, List.length_map, List.length_take]; omega)
    have hv3 := hg3.slv
    have gpo3 : h3.get po = some (.cells [.int .i64 ((N : Int) + M), .int .i64 lb, v] 0) := by
      rw [hf3.get _ (by omega) (fun e => (hob _ e).2 rfl), hf2.get _ (by omega)]; exact hgp
    have := ih (i + 1) (h3.put po (.cells [.int .i64 ((N : Int) + M), .int .i64 lb, v'] 0)) v' (some h2.next) (by omega) ⟨by simp; omega, fun j hj hd => by
        rw [zk (by omega), hf3.get _ (by omega) (fun e => hd (hob _ e).1), hf2.get _ (by omega)]; exact hf.get _ hj hd⟩ (zB rfl) (by
        have : zbm N es (fs.take (i + 1)) = zbm N es (fs.take i) ++ [shE N x] := by
          unfold zbm; rw [htk, List.map_append, List.append_assoc]; rfl
        rw [this, List.map_append]
        exact hg3.frD ((FrD.refl (fun j => j = po) _).put (.inr rfl) _) (fun b e => by cases e; omega)) (fun b e => by cases e; omega)
    rw [s_y_1]
    refine OkV.eq (this.lp (l_y_1 F _ _ _ _ _ _)) ?_
    obtain ⟨x1, x2, x3⟩ := x
    simp only at hxin
    simp only [shE] at eh2 ea gpo3
    simp (disch := first | omega | (simp only [za, zb]; done) | (simp only [za, zb]; omega)) [hil, hvi, hgi, htc, hgp, hv.take, hv.one, gq, zn, zo, zH]
    rw [← eh2, ea]
    simp (disch := first | omega | (simp only [za, zb]; done) | (simp only [za, zb]; omega)) [gpo3, hv3.cells, hv3.cell, zH]
end Go.Ideal.J
namespace Go.Ideal.J
open Go Go.Ideal
theorem alike_ok (N M : Nat) (hN : N ≤ 60) (hM : M ≤ 60) (lb lb' : Int) (es fs : List Ed) (hel : es.length ≤ 400) (hfl : fs.length ≤ 400) (hein : inB (N : Int) es) (hfin : inB (M : Int) fs) (hes : zZ es) (hfs : zZ fs) (sl sl' : Value) (h : H) (hrow : Row h 3 sl (es.map edL)) (hrow' : Row h 3 sl' (fs.map edL)) {P : Value → H → Prop}
    (hP : ∀ h' k, Fr h h' → fnd (rN (zbm N es fs) (N + M) k) (zbm N es fs) ((k : Int) + 1) (N + M) = [] → P (.bool (rN (zbm N es fs) (N + M) k 0 (N : Int)).isNone) h') :
    Ret F (fnV n_y) [gV (N : Int) lb sl, gV (M : Int) lb' sl'] h P := by
  refine Ret.fn F_y 2 (by decide) ?_
  rw [s_y]
  have hv := hrow.slvM
  have hv' := hrow'.slvM
  obtain ⟨h2, eh2⟩ : ∃ h2, h2 = (h.new (.cells (gL (N : Int) lb sl) 0)).new (.cells (gL (M : Int) lb' sl') 0) := ⟨_, rfl⟩
  have hf2 : Fr h h2 := by rw [eh2]; exact (Fr.new _ _).newR _
  have hn2 : h2.next = h.next + 2 := by rw [eh2]; simp
  have g0 : h2.get h.next = some (.cells (gL (N : Int) lb sl) 0) := by rw [eh2]; simp (disch := omega)
  have g1 : h2.get (h.next + 1) = some (.cells (gL (M : Int) lb' sl') 0) := by rw [eh2]; simp (disch := omega)
  simp (disch := first | omega | (simp only [za, zb]; done) | (simp only [za, zb]; omega)) [hv.clean, hv.take, hv'.clean, hv'.take]
  rw [← eh2]
  refine OkV.call (clone_ok es (by omega) sl h2 (hrow.fr hf2) (P := fun v h' => ∃ ob, Fr h2 h' ∧ Grow h' 3 v (es.map edL) ob ∧ ∀ q, ob = some q → h2.next ≤ q) (fun h' v ob q1 q2 q3 => ⟨ob, q1, q2, q3⟩)) ?_
  rintro v h3 ⟨ob, hf3, hg3, hob3⟩
  have hfn3 := hf3.next
  have hv3 := hg3.slvM
  have g03 := (hf3.get _ (by omega)).trans g0
  have g13 := (hf3.get _ (by omega)).trans g1
  obtain ⟨h4, eh4⟩ : ∃ h4, h4 = h3.new (.cells [.int .i64 ((N : Int) + M), .int .i64 lb, v] 0) := ⟨_, rfl⟩
  have hf4 : Fr h3 h4 := by rw [eh4]; exact Fr.new _ _
  have hn4 : h4.next = h3.next + 1 := by rw [eh4]; simp
  have g04 := (hf4.get _ (by omega)).trans g03
  have g14 := (hf4.get _ (by omega)).trans g13
  have gp4 : h4.get h3.next = some (.cells [.int .i64 ((N : Int) + M), .int .i64 lb, v] 0) := by rw [eh4]; simp
  have hobl : ∀ q, ob = some q → q < h3.next := fun q e => by subst e; exact hg3.lt
  have eNM : ((N : Int) + M) = ((N + M : Nat) : Int) := by omega
  have := alike1 N M (by omega) (by omega) lb lb' es fs (by omega) (by omega) hfin sl sl' h.next h3.next h4 (((hrow'.fr hf2).fr hf3).fr hf4) (fun b o n c e => hrow'.lt e) g04 (by omega) (by omega) h2.next (by omega) (by omega) (P := P)
    (fun h5 v5 ob5 hf5 gp5 hg5 => by
      have hfn5 := hf5.next
      have hv5 := hg5.slvM
      have g05 := (hf5.get _ (by omega) (by omega)).trans g04
      have hsrt : zZ (zbm N es fs) := by
        unfold zbm zZ
        rw [List.pairwise_append]
        refine ⟨hes, ?_, ?_⟩
        · rw [List.pairwise_map]
          exact hfs.imp fun h => by simp only [shE]; omega
        · intro x hx y hy
          obtain ⟨z, hz, rfl⟩ := List.mem_map.1 hy
          have := hein x hx; have := hfin z hz
          simp only [shE]; omega
      rw [s_y_0]
      simp (disch := first | omega | (simp only [za, zb]; done) | (simp only [za, zb]; omega)) [gp5, hv5.clean, hv5.take, hv5.eqc]
      have hap := apart_ok (zbm N es fs) hsrt (by unfold zbm; rw [List.length_append, List.length_map]; omega) (N + M) (by omega) lb v5 h5 (hg5.row (by omega)) (P := fun u h' => ∃ m k, u = .map (some m) ∧ Fr h5 h' ∧ MapM h' m (rV (rN (zbm N es fs) (N + M) k)) ∧ fnd (rN (zbm N es fs) (N + M) k) (zbm N es fs) ((k : Int) + 1) (N + M) = []) (fun h' m k q1 q2 q3 q4 q5 => ⟨m, k, rfl, q1, q4, q5⟩)
      rw [← eNM] at hap
      refine OkV.call hap ?_
      rintro u h6 ⟨m, k, rfl, hf6, hm6, hk6⟩
      have hfn6 := hf6.next
      have g06 := (hf6.get _ (by omega)).trans g05
      have hfr : Fr h h6 := ⟨by omega, fun i hi => by
        rw [hf6.get _ (by omega), hf5.get _ (by omega) (by omega), hf4.get _ (by omega), hf3.get _ (by omega), hf2.get _ hi]⟩
      have hlk := look_ok hm6 (.int .i64 0) 0 (N : Int)
      have hb : (rV (rN (zbm N es fs) (N + M) k) 0 (N : Int)).isSome = !(rN (zbm N es fs) (N + M) k 0 (N : Int)).isNone := by
        simp only [rV]
        cases rN (zbm N es fs) (N + M) k 0 (N : Int) <;> rfl
      rw [hb] at hlk
      refine OkV.eq (OkV.val (hP h6 k hfr hk6)) ?_
      simp (disch := first | omega | (simp only [za, zb]; done) | (simp only [za, zb]; omega)) [g05, g06, zn, hlk]) fs.length 0 h4 v ob (by omega) (.refl _ _) gp4 (by simpa [zbm] using hg3.fr hf4) (fun b e => ⟨by have := hob3 b e; omega, by have := hobl b e; omega⟩)
  refine OkV.eq (this.lp (l_y_1 F _ _ _ _ _ _)) ?_
  have hw : -9223372036854775808 ≤ (N : Int) + M := by omega
  have hw2 : (N : Int) + M ≤ 9223372036854775807 := by omega
  simp (disch := first | omega | (simp only [za, zb]; done) | (simp only [za, zb]; omega)) [g03, g13, hv.eq, hv.one, hv.take, zH hw hw2, zn, hv3.cells, hv3.cell, hv3.clean, hv3.take, ← eh4, g14, hv'.take, hv'.one, hv'.len]
end Go.Ideal.J
namespace Go.Ideal.J
open Go Go.Ideal
def IsBis (es : List Ed) (R : Int → Int → Prop) : Prop :=
  ∀ a b, R a b → (∀ x ∈ outs es a, ∃ t ∈ tos es b x.2.2, R x.2.1 t) ∧ (∀ y ∈ outs es b, ∃ t ∈ tos es a y.2.2, R t y.2.1)
def Bis (es : List Ed) (a b : Int) : Prop := ∃ R, IsBis es R ∧ R a b
theorem Bis.symm {es : List Ed} {a b : Int} (h : Bis es a b) : Bis es b a := by
  obtain ⟨R, hR, h⟩ := h
  exact ⟨fun x y => R y x, fun x y hxy => ⟨(hR y x hxy).2, (hR y x hxy).1⟩, h⟩
theorem isBis_bis (es : List Ed) : IsBis es (Bis es) := by
  rintro a b ⟨R, hR, h⟩
  obtain ⟨h1, h2⟩ := hR a b h
  refine ⟨fun x hx => ?_, fun y hy => ?_⟩
  · obtain ⟨t, ht, hr⟩ := h1 x hx; exact ⟨t, ht, R, hR, hr⟩
  · obtain ⟨t, ht, hr⟩ := h2 y hy; exact ⟨t, ht, R, hR, hr⟩
theorem zdC {es : List Ed} {a : Int} {x : Ed} : x ∈ outs es a ↔ x ∈ es ∧ x.1 = a := by
  unfold outs; rw [List.mem_filter]; simp
theorem zc7 {es : List Ed} {N : Nat} : ∀ {k : Nat} {a b : Int} {v : Int}, rN es N k a b = some v → v ≤ k ∧ a ≠ b ∧ ¬ Bis es a b
  | 0, a, b, v, h => by cases h
  | k + 1, a, b, v, h => by
    have h : zcF (rN es N k) ((k : Int) + 1) (fnd (rN es N k) es ((k : Int) + 1) N) a b = some v := h
    rw [zbt] at h
    have step : ∀ a b : Int, (a, b) ∈ fnd (rN es N k) es ((k : Int) + 1) N → a ≠ b ∧ ¬ Bis es a b := by
      intro a b hm
      obtain ⟨c, d, e, h1, h2, h3⟩ := zc8.1 hm
      cases e
      refine ⟨by omega, fun hb => ?_⟩
      unfold zcu at h3
      simp only [Bool.and_eq_true, Bool.or_eq_true] at h3
      have key : ∀ p q : Int, (zbf (rN es N k) es p q ((k : Int) + 1 - 1)).isSome = true → ¬ Bis es p q := by
        intro p q hf hb
        obtain ⟨x, hx⟩ := Option.isSome_iff_exists.1 hf
        have h4 := List.find?_some hx
        have h5 := List.mem_of_find?_eq_some hx
        obtain ⟨t, ht, hbt⟩ := (isBis_bis es p q hb).1 x h5
        have h6 := List.all_eq_true.1 h4 t ht
        unfold zbD at h6
        cases hr : rN es N k x.2.1 t with
        | none => rw [hr] at h6; simp at h6
        | some u => exact (zc7 hr).2.2 hbt
      rcases h3.2 with h | h
      · exact key _ _ h hb
      · exact key _ _ h hb.symm
    split at h
    · rename_i hm
      cases h
      refine ⟨by omega, ?_⟩
      rcases hm with hm | hm
      · exact step a b hm
      · obtain ⟨h1, h2⟩ := step b a hm
        exact ⟨fun e => h1 e.symm, fun hb => h2 hb.symm⟩
    · obtain ⟨h1, h2⟩ := zc7 h
      exact ⟨by omega, h2⟩
theorem zfh {es : List Ed} {N : Nat} : ∀ (k : Nat) (a b : Int), rN es N k a b = rN es N k b a
  | 0, _, _ => rfl
  | k + 1, a, b => by
    show zcF _ _ _ a b = zcF _ _ _ b a
    rw [zbt, zbt, zfh k a b]
    congr 1
    exact propext Or.comm
theorem rN_none {es : List Ed} {N k : Nat} (hin : inB (N : Int) es) (hk : fnd (rN es N k) es ((k : Int) + 1) N = []) {a b : Int} (ha : 0 ≤ a ∧ a < N) (hb : 0 ≤ b ∧ b < N) : (rN es N k a b).isNone = true ↔ Bis es a b := by
  constructor
  · intro h0
    refine ⟨fun a b => 0 ≤ a ∧ a < N ∧ 0 ≤ b ∧ b < N ∧ rN es N k a b = none, ?_, ha.1, ha.2, hb.1, hb.2, by simpa using h0⟩
    have half : ∀ a b : Int, 0 ≤ a ∧ a < N ∧ 0 ≤ b ∧ b < N ∧ rN es N k a b = none → zbf (rN es N k) es a b k = none → ∀ x ∈ outs es a, ∃ t ∈ tos es b x.2.2, 0 ≤ x.2.1 ∧ x.2.1 < N ∧ 0 ≤ t ∧ t < N ∧ rN es N k x.2.1 t = none := by
      intro a b hab hf x hx
      have h1 := List.find?_eq_none.1 hf x hx
      have h2 : ∃ t ∈ tos es b x.2.2, zbD (rN es N k) k x.2.1 t = false := by
        rw [Bool.not_eq_true] at h1
        unfold zft at h1
        rw [List.all_eq_false] at h1
        obtain ⟨t, ht, hh⟩ := h1
        exact ⟨t, ht, by simpa using hh⟩
      obtain ⟨t, ht, htt⟩ := h2
      have hxi := hin x (zdC.1 hx).1
      obtain ⟨y, hy, _, _, rfl⟩ := zfi.1 ht
      have hyi := hin y hy
      refine ⟨_, ht, hxi.2.2.1, hxi.2.2.2, hyi.2.2.1, hyi.2.2.2, ?_⟩
      cases hr : rN es N k x.2.1 y.2.1 with
      | none => rfl
      | some u =>
        obtain ⟨h3, h4, _⟩ := zc7 hr
        unfold zbD at htt
        rw [hr] at htt
        simp [h3, h4] at htt
    have first_nil : ∀ a b : Int, 0 ≤ a ∧ a < N ∧ 0 ≤ b ∧ b < N ∧ rN es N k a b = none → a ≠ b → zbf (rN es N k) es a b k = none ∧ zbf (rN es N k) es b a k = none := by
      intro a b ⟨h1, h2, h3, h4, h5⟩ hne
      obtain ⟨a, rfl⟩ := Int.eq_ofNat_of_zero_le h1
      obtain ⟨b, rfl⟩ := Int.eq_ofNat_of_zero_le h3
      have ek : ((k : Int) + 1 - 1) = k := by omega
      have main : ∀ a b : Nat, a < N → b < a → rN es N k a b = none → zbf (rN es N k) es a b k = none ∧ zbf (rN es N k) es b a k = none := by
        intro a b h2 hlt h5
        have hc : zcu (rN es N k) es ((k : Int) + 1) a b = false := by
          rw [Bool.eq_false_iff]
          intro hc
          have : ((a : Int), (b : Int)) ∈ fnd (rN es N k) es ((k : Int) + 1) N := zc8.2 ⟨a, b, rfl, h2, hlt, hc⟩
          rw [hk] at this; cases this
        unfold zcu at hc
        rw [h5, ek] at hc
        simp at hc
        exact hc
      rcases Nat.lt_or_gt_of_ne (fun e : a = b => hne (by rw [e])) with h | h
      · have := main b a (by omega) h (by rw [zfh]; exact h5)
        exact ⟨this.2, this.1⟩
      · exact main a b (by omega) h h5
    rintro a b hab
    by_cases hne : a = b
    · subst hne
      refine ⟨fun x hx => ?_, fun x hx => ?_⟩
      · have hx' := zdC.1 hx
        have hxi := hin x hx'.1
        refine ⟨x.2.1, zfi.2 ⟨x, hx'.1, hx'.2, rfl, rfl⟩, hxi.2.2.1, hxi.2.2.2, hxi.2.2.1, hxi.2.2.2, ?_⟩
        cases hr : rN es N k x.2.1 x.2.1 with
        | none => rfl
        | some u => exact absurd rfl (zc7 hr).2.1
      · have hx' := zdC.1 hx
        have hxi := hin x hx'.1
        refine ⟨x.2.1, zfi.2 ⟨x, hx'.1, hx'.2, rfl, rfl⟩, hxi.2.2.1, hxi.2.2.2, hxi.2.2.1, hxi.2.2.2, ?_⟩
        cases hr : rN es N k x.2.1 x.2.1 with
        | none => rfl
        | some u => exact absurd rfl (zc7 hr).2.1
    · obtain ⟨f1, f2⟩ := first_nil a b hab hne
      refine ⟨half a b hab f1, fun y hy => ?_⟩
      obtain ⟨t, ht, h1, h2, h3, h4, h5⟩ := half b a ⟨hab.2.2.1, hab.2.2.2.1, hab.1, hab.2.1, by rw [zfh]; exact hab.2.2.2.2⟩ f2 y hy
      exact ⟨t, ht, h3, h4, h1, h2, by rw [zfh]; exact h5⟩
  · intro hb'
    cases hr : rN es N k a b with
    | none => rfl
    | some v => exact absurd hb' (zc7 hr).2.2
open Classical in
theorem jAlike_ok (st lb st' lb' : Int) (es fs : List Ed) (sl sl' : Value) (h : H) (hrow : Row h 3 sl (es.map edL)) (hrow' : Row h 3 sl' (fs.map edL)) {P : Value → H → Prop}
    (hP1 : (chk st lb es && chk st' lb' fs && decide (lb = lb')) = false → ∀ h', Fr h h' → P (zdS (.bool false) (.int .i64 2)) h')
    (hP2 : (chk st lb es && chk st' lb' fs && decide (lb = lb')) = true → ∀ h', Fr h h' → P (zdS (.bool (decide (Bis (zbm st.toNat es fs) 0 st))) (.int .i64 0)) h') :
    Ret F (fnV n_L) [gV st lb sl, gV st' lb' sl'] h P := by
  refine Ret.fn F_L 2 (by decide) ?_
  rw [s_L]
  have hv := hrow.slvM
  have hv' := hrow'.slvM
  obtain ⟨h2, eh2⟩ : ∃ h2, h2 = (h.new (.cells (gL st lb sl) 0)).new (.cells (gL st' lb' sl') 0) := ⟨_, rfl⟩
  have hf2 : Fr h h2 := by rw [eh2]; exact (Fr.new _ _).newR _
  have hn2 : h2.next = h.next + 2 := by rw [eh2]; simp
  have g0 : h2.get h.next = some (.cells (gL st lb sl) 0) := by rw [eh2]; simp (disch := omega)
  have g1 : h2.get (h.next + 1) = some (.cells (gL st' lb' sl') 0) := by rw [eh2]; simp (disch := omega)
  obtain ⟨h3, e3, hf3⟩ := both_ok st lb st' lb' es fs sl sl' h2 (hrow.fr hf2) (hrow'.fr hf2)
  have hfn3 := hf3.next
  have g03 := (hf3.get _ (by omega)).trans g0
  have g13 := (hf3.get _ (by omega)).trans g1
  cases hc : (chk st lb es && chk st' lb' fs && decide (lb = lb')) with
  | false =>
    rw [hc] at e3
    refine OkV.eq (OkV.val (hP1 hc h3 (hf2.trans hf3))) ?_
    simp (disch := first | omega | (simp only [za, zb]; done) | (simp only [za, zb]; omega)) [hv.clean, hv.take, hv'.clean, hv'.take, ← eh2, g0, g1, e3]
  | true =>
    rw [hc] at e3
    have hc' := hc
    simp only [Bool.and_eq_true, decide_eq_true_eq] at hc'
    have f := (zek st lb es).1 hc'.1.1
    have f' := (zek st' lb' fs).1 hc'.1.2
    obtain ⟨N, rfl⟩ := Int.eq_ofNat_of_zero_le (show 0 ≤ st by have := f.st1; omega)
    obtain ⟨M, rfl⟩ := Int.eq_ofNat_of_zero_le (show 0 ≤ st' by have := f'.st1; omega)
    have a1 := f.st1; have a2 := f.st2; have a3 := f'.st1; have a4 := f'.st2
    simp (disch := first | omega | (simp only [za, zb]; done) | (simp only [za, zb]; omega)) [hv.clean, hv.take, hv'.clean, hv'.take, ← eh2, g0, g1, e3, g03, g13]
    refine OkV.call (alike_ok N M (by omega) (by omega) lb lb' es fs f.len f'.len f.inB f'.inB f.sortedF f'.sortedF sl sl' h3 ((hrow.fr hf2).fr hf3) ((hrow'.fr hf2).fr hf3) (P := fun v h' => v = .bool (decide (Bis (zbm N es fs) 0 (N : Int))) ∧ Fr h3 h') (fun h' k q1 q2 => ⟨?_, q1⟩)) ?_
    · congr 1
      have hin : inB ((N + M : Nat) : Int) (zbm N es fs) := by
        intro x hx
        rcases List.mem_append.1 hx with hx | hx
        · have := f.inB x hx; omega
        · obtain ⟨y, hy, rfl⟩ := List.mem_map.1 hx
          have := f'.inB y hy
          simp only [shE]; omega
      rw [Bool.eq_iff_iff, decide_eq_true_eq]
      exact rN_none hin q2 ⟨by omega, by omega⟩ ⟨by omega, by omega⟩
    · rintro v h' ⟨rfl, hf'⟩
      refine OkV.eq (OkV.val (hP2 hc h' ((hf2.trans hf3).trans hf'))) ?_
      simp (disch := first | omega | (simp only [za, zb]; done) | (simp only [za, zb]; omega)) []
end Go.Ideal.J
namespace Go.Ideal.J
open Go Go.Ideal
section
variable {es fs : List Ed} {N M K : Nat}
end
end Go.Ideal.J
namespace Go.Ideal.J
open Go Go.Ideal
theorem known_ok' (h : H) : zbj F (fnV n_F) [] h = some (.bool true, h) := by
  refine zO F_F 0 (by decide) ?_
  rfl
end Go.Ideal.J
namespace Go.Ideal.J
open Go Go.Ideal
theorem ziQ {es : List Ed} {a : Int} {i : Nat} {x : Ed} (h : es[i]? = some x) : outs (es.take (i + 1)) a = outs (es.take i) a ++ if x.1 = a then [x] else [] := by
  unfold outs
  rw [List.take_add_one, h, List.filter_append]
  congr 1
  by_cases e : x.1 = a <;> simp [e]
theorem rsteps_loop (es : List Ed) (hsz : es.length ≤ 1000) (a st lb : Int) (sl : Value) (pg lo : Nat) (h0 : H) (hrow : Row h0 3 sl (es.map edL)) (hsl : ∀ b o n c, sl = .slice (some ⟨b, o, none⟩) n c → b < lo) (hgg : h0.get pg = some (.cells (gL st lb sl) 0)) (hpg : pg < lo) (hlo : lo ≤ h0.next) {P : Value → H → Prop}
    (hP : ∀ h' v ob, FrD (fun j => lo ≤ j) h0 h' → Grow h' 3 v ((outs es a).map edL) ob → (∀ b, ob = some b → lo ≤ b) → P v h') :
    ∀ (k i : Nat) (h : H) (v : Value) (ob : Option Nat), i + k = es.length → FrD (fun j => lo ≤ j) h0 h → Grow h 3 v ((outs (es.take i) a).map edL) ob → (∀ b, ob = some b → lo ≤ b) →
    OkV (sh (rI F) c_q_1 (K_q_1 (rI F)) (setL [p1, p2, p5, p6] [.int .i64 a, ptr pg, v, .int .i64 (i : Int)]) h) P := by
  intro k
  induction k with
  | zero =>
    intro i h v ob hi hf hg hob
    have e : i = es.length := by omega
    subst e
    rw [List.take_length] at hg
    have gpg := (hf.get _ (by omega) (by omega)).trans hgg
    have hv := hrow.slvM
    refine OkV.eq (OkV.val (hP h v ob hf hg hob)) ?_
    rw [s_q_1]
    simp (disch := first | omega | (simp only [za, zb]; done) | (simp only [za, zb]; omega)) [gpg, hv.take, hv.one, hv.len, s_q_0]
  | succ k ih =>
    intro i h v ob hi hf hg hob
    have hil : i < es.length := by omega
    have hfn := hf.next
    have gpg := (hf.get _ (by omega) (by omega)).trans hgg
    have hv := hrow.slvM
    have hx : (es.map edL)[i]? = some (edL es[i]) := by simp [hil]
    have hsucc := ziQ (a := a) (List.getElem?_eq_getElem hil)
    obtain ⟨b, o, cs, e, hvi, hb, hgi, htc⟩ := (hrow.frD hf (fun b o n c e => by have := hsl b o n c e; omega)).index hx
    generalize es[i] = x at *
    have ht1 : zY 1 (zbw o cs) = some [.int .i64 x.1] := by
      have h1 := (zca htc).1
      rw [zcY, zcA] at h1
      split at h1
      · rename_i hl
        rw [zcA]
        have hd : ∃ r, cs.drop o = Value.int .i64 x.1 :: r := by
          have h2 := Option.some.inj h1
          match hcs : cs.drop o with
          | [] => rw [hcs] at h2; simp at h2
          | c :: r => rw [hcs] at h2; simp at h2; exact ⟨r, by rw [h2.1]⟩
        obtain ⟨r, hr⟩ := hd
        rw [hr, takeC_int, takeC_z]; rfl
      · cases h1
    rw [s_q_1]
    by_cases c : x.1 = a
    · rw [if_pos c] at hsucc
      obtain ⟨x1, x2, x3⟩ := x
      obtain rfl : a = x1 := c.symm
      have hlen : (outs (es.take i) a).length ≤ 1000 := by
        unfold outs
        have := List.length_filter_le (fun x : Ed => decide (x.1 = a)) (es.take i)
        rw [List.length_take] at this; omega
      obtain ⟨h2, eh2⟩ : ∃ h2, h2 = h.new (.cells (edL (a, x2, x3)) 0) := ⟨_, rfl⟩
      have hf2 : Fr h h2 := by rw [eh2]; exact Fr.new _ _
      have hn2 : h2.next = h.next + 1 := by rw [eh2]; simp
      obtain ⟨h3, v', ea, hg3, hn3, hf3⟩ := zcg (h := h2) (sz := 3) (bytes := 24) (r := edL (a, x2, x3)) (b := h.next) (e := 0) (by omega) (by decide) (hg.fr hf2) (by rw [eh2]; simp) rfl rfl rfl (by rw [List.length_map]; omega)
      have := ih (i + 1) h3 v' (some h2.next) (by omega) ⟨by omega, fun j hj hd => (hf3.get _ (by omega) (fun e => hd (hob _ e))).trans ((hf2.get _ (by omega)).trans (hf.get _ hj hd))⟩ (by rw [hsucc, List.map_append]; exact hg3) (fun b e => by cases e; omega)
      refine OkV.eq (this.lp (l_q_1 F _ _ _ _ _)) ?_
      simp (disch := first | omega | (simp only [za, zb]; done) | (simp only [za, zb]; omega)) [gpg, hv.take, hv.one, hv.len, hil, hvi, hgi, ht1, htc, zn, zo, ← eh2, ea, s_q_2, zH]
    · rw [if_neg c, List.append_nil] at hsucc
      have := ih (i + 1) h v ob (by omega) hf (by rw [hsucc]; exact hg) hob
      refine OkV.eq (this.lp (l_q_1 F _ _ _ _ _)) ?_
      simp (disch := first | omega | (simp only [za, zb]; done) | (simp only [za, zb]; omega)) [gpg, hv.take, hv.one, hv.len, hil, hvi, hgi, ht1, c, s_q_2, zH]
theorem zhx (es : List Ed) (hsz : es.length ≤ 1000) (a st lb : Int) (sl : Value) (h : H) (hrow : Row h 3 sl (es.map edL)) {P : Value → H → Prop}
    (hP : ∀ h' v ob, Fr h h' → Grow h' 3 v ((outs es a).map edL) ob → (∀ b, ob = some b → h.next ≤ b) → P v h') : Ret F (fnV n_q) [gV st lb sl, .int .i64 a] h P := by
  refine Ret.fn F_q 2 (by decide) ?_
  rw [s_q]
  have hv := hrow.slvM
  have hf1 : Fr h (h.new (.cells (gL st lb sl) 0)) := .new _ _
  have := rsteps_loop es hsz a st lb sl h.next (h.next + 1) (h.new (.cells (gL st lb sl) 0)) (hrow.fr hf1) (fun b o n c e => by have := hrow.lt e; omega) (by simp) (by omega) (by simp) (P := P) (fun h' v ob q1 q2 q3 => hP h' v ob ⟨by have := q1.next; simp at this; omega, fun i hi => (q1.get _ (by simp; omega) (by omega)).trans (hf1.get _ hi)⟩ q2 (fun b e => by have := q3 b e; omega)) es.length 0 (h.new (.cells (gL st lb sl) 0)) (.slice none 0 0) none (by omega) (.refl _ _) (by simpa [outs] using Grow.nil) (by simp)
  refine OkV.eq (this.lp (l_q_1 F _ _ _ _ _)) ?_
  simp (disch := first | omega | (simp only [za, zb]; done) | (simp only [za, zb]; omega)) []
end Go.Ideal.J
