/- A part of the proof: the ideal machine, and what the functions of the program answer over it. -/
import Derived.Test.YtanaepeilcjhcaaD
set_option linter.unusedSimpArgs false
set_option linter.unusedVariables false
noncomputable section
namespace Go.Ideal.J
open Go Go.Ideal
set_option maxRecDepth 100000
theorem s_e_0 (X : Rn) (t1 t2 t3 t7 t9 : Value) (h : H) : sh X c_e_0 (K_e_0 X) (setL [p1, p2, p3, p7, p9] [t1, t2, t3, t7, t9]) h =
    k2 (zi 3 t3 h) fun t71 h1 =>
    k2 (zi 3 t3 h1) fun t72 h2 =>
    k2 (some (t9, h2)) fun t73 h3 =>
    k2 (X.call (.func (.func n_N) #[] #[]) [t71, t72, t73] h3) fun t74 h4 =>
    k2 (some (t74, h4)) fun t70 h5 =>
    k2 (zn 0 t70 h5) fun t75 h6 =>
    k2 (zn 1 t70 h6) fun t76 h7 =>
    k2 (some (t75, h7)) fun t12 h8 =>
    k2 (some (t76, h8)) fun t8 h9 =>
    k2 (some (t12, h9)) fun t77 h10 =>
    k2 (vUn .not t77 h10) fun t78 h11 =>
    k2 (some (t78, h11)) fun t79 h12 =>
    k2 (gd t79 false h12 (some (t8, h12))) fun t80 h13 =>
    k2 (gd t79 false h13 (vBin .neq .other t80 (.int .i64 0) h13)) fun t81 h14 =>
    k2 (zI t79 (.bool true) t81 h14) fun t82 h15 =>
    br t82
      (k2 (some ((.bool false), h15)) fun t6 h16 =>
    some (.val (zf [t6]) h16))
      (k2 (some (t1, h15)) fun t83 h17 =>
    k2 (vConv .i64 t83 h17) fun t84 h18 =>
    k2 (zd 0 t3 h18) fun t85 h19 =>
    k2 (rdF (fun b => zc t85 b) 0 h19 [(0, h15)]) fun t86 h20 =>
    k2 (vBin .rem .other t84 t86 h20) fun t87 h21 =>
    k2 (some (t2, h21)) fun t88 h22 =>
    k2 (vConv .i64 t88 h22) fun t89 h23 =>
    k2 (zd 0 t3 h23) fun t90 h24 =>
    k2 (rdF (fun b => zc t90 b) 0 h24 [(0, h15)]) fun t91 h25 =>
    k2 (vBin .rem .other t89 t91 h25) fun t92 h26 =>
    k2 (some (t87, h26)) fun t13 h27 =>
    k2 (some (t92, h27)) fun t14 h28 =>
    k2 (zi 3 t3 h28) fun t94 h29 =>
    k2 (some (t13, h29)) fun t95 h30 =>
    k2 (some (t14, h30)) fun t96 h31 =>
    k2 (X.call (.func (.func n_I) #[] #[]) [t94, t95, t96] h31) fun t97 h32 =>
    k2 (some (t97, h32)) fun t93 h33 =>
    k2 (zn 0 t93 h33) fun t98 h34 =>
    k2 (zn 1 t93 h34) fun t99 h35 =>
    k2 (some (zj h35 [(.int .i64 0), (.int .i64 0), (.slice none 0 0)])) fun t15 h36 =>
    k2 (zo 3 t15 t98 h36) fun _ h37 =>
    k2 (some (t99, h37)) fun t8 h38 =>
    k2 (some (t8, h38)) fun t100 h39 =>
    k2 (vBin .neq .other t100 (.int .i64 0) h39) fun t101 h40 =>
    br t101
      (k2 (some (t8, h40)) fun t102 h41 =>
    k2 (vBin .eql .other t102 (.int .i64 5) h41) fun t103 h42 =>
    k2 (some (t103, h42)) fun t104 h43 =>
    k2 (gd t104 true h43 (some (t7, h43))) fun t105 h44 =>
    k2 (gd t104 true h44 (some (t13, h44))) fun t106 h45 =>
    k2 (gd t104 true h45 (zy 1 t105 t106 h45)) fun t107 h46 =>
    k2 (gd t104 true h46 (rdF (fun b => zc t107 b) 0 h46 [(0, h40)])) fun t108 h47 =>
    k2 (gd t104 true h47 (some (t7, h47))) fun t109 h48 =>
    k2 (gd t104 true h48 (some (t14, h48))) fun t110 h49 =>
    k2 (gd t104 true h49 (zy 1 t109 t110 h49)) fun t111 h50 =>
    k2 (gd t104 true h50 (rdF (fun b => zc t111 b) 0 h50 [(0, h40)])) fun t112 h51 =>
    k2 (gd t104 true h51 (vBin .eql .other t108 t112 h51)) fun t113 h52 =>
    k2 (zI t104 t113 (.bool false) h52) fun t114 h53 =>
    k2 (some (t114, h53)) fun t115 h54 =>
    k2 (gd t115 false h54 (some (t8, h54))) fun t116 h55 =>
    k2 (gd t115 false h55 (vBin .eql .other t116 (.int .i64 3) h55)) fun t117 h56 =>
    k2 (gd t115 false h56 (some (t117, h56))) fun t118 h57 =>
    k2 (gd t118 true h57 (some (t7, h57))) fun t119 h58 =>
    k2 (gd t118 true h58 (some (t13, h58))) fun t120 h59 =>
    k2 (gd t118 true h59 (zy 1 t119 t120 h59)) fun t121 h60 =>
    k2 (gd t118 true h60 (rdF (fun b => zc t121 b) 0 h60 [(0, h40)])) fun t122 h61 =>
    k2 (gd t118 true h61 (some (t7, h61))) fun t123 h62 =>
    k2 (gd t118 true h62 (some (t14, h62))) fun t124 h63 =>
    k2 (gd t118 true h63 (zy 1 t123 t124 h63)) fun t125 h64 =>
    k2 (gd t118 true h64 (rdF (fun b => zc t125 b) 0 h64 [(0, h40)])) fun t126 h65 =>
    k2 (gd t118 true h65 (vBin .neq .other t122 t126 h65)) fun t127 h66 =>
    k2 (gd t115 false h66 (zI t118 t127 (.bool false) h66)) fun t128 h67 =>
    k2 (zI t115 (.bool true) t128 h67) fun t129 h68 =>
    k2 (some (t129, h68)) fun t130 h69 =>
    k2 (gd t130 true h69 (zd 0 t15 h69)) fun t131 h70 =>
    k2 (gd t130 true h70 (rdF (fun b => zc t131 b) 0 h70 [(0, h40)])) fun t132 h71 =>
    k2 (gd t130 true h71 (vBin .eql .other t132 (.int .i64 0) h71)) fun t133 h72 =>
    k2 (zI t130 t133 (.bool false) h72) fun t134 h73 =>
    k2 (some (t134, h73)) fun t135 h74 =>
    k2 (gd t135 true h74 (X.call (.func (.func n_A) #[] #[]) [] h74)) fun t136 h75 =>
    k2 (zI t135 t136 (.bool false) h75) fun t137 h76 =>
    k2 (some (t137, h76)) fun t6 h77 =>
    some (.val (zf [t6]) h77))
      (k2 (zi 3 t3 h40) fun t139 h78 =>
    k2 (zi 3 t15 h78) fun t140 h79 =>
    k2 (some (t13, h79)) fun t141 h80 =>
    k2 (X.call (.func (.func n_K) #[] #[]) [t139, t140, t141] h80) fun t142 h81 =>
    k2 (some (t142, h81)) fun t138 h82 =>
    k2 (zn 0 t138 h82) fun t143 h83 =>
    k2 (zn 1 t138 h83) fun t144 h84 =>
    k2 (some (t143, h84)) fun t16 h85 =>
    k2 (some (t144, h85)) fun t17 h86 =>
    k2 (zi 3 t3 h86) fun t146 h87 =>
    k2 (zi 3 t15 h87) fun t147 h88 =>
    k2 (some (t14, h88)) fun t148 h89 =>
    k2 (X.call (.func (.func n_K) #[] #[]) [t146, t147, t148] h89) fun t149 h90 =>
    k2 (some (t149, h90)) fun t145 h91 =>
    k2 (zn 0 t145 h91) fun t150 h92 =>
    k2 (zn 1 t145 h92) fun t151 h93 =>
    k2 (some (t150, h93)) fun t18 h94 =>
    k2 (some (t151, h94)) fun t19 h95 =>
    k2 (some (t17, h95)) fun t152 h96 =>
    k2 (vBin .eql .other t152 (.int .i64 0) h96) fun t153 h97 =>
    k2 (some (t153, h97)) fun t154 h98 =>
    k2 (gd t154 true h98 (some (t19, h98))) fun t155 h99 =>
    k2 (gd t154 true h99 (vBin .eql .other t155 (.int .i64 0) h99)) fun t156 h100 =>
    k2 (zI t154 t156 (.bool false) h100) fun t157 h101 =>
    k2 (some (t157, h101)) fun t158 h102 =>
    k2 (gd t158 true h102 (some (t16, h102))) fun t159 h103 =>
    k2 (zI t158 t159 (.bool false) h103) fun t160 h104 =>
    k2 (some (t160, h104)) fun t161 h105 =>
    k2 (gd t161 true h105 (some (t18, h105))) fun t162 h106 =>
    k2 (gd t161 true h106 (vUn .not t162 h106)) fun t163 h107 =>
    k2 (zI t161 t163 (.bool false) h107) fun t164 h108 =>
    k2 (some (t164, h108)) fun t165 h109 =>
    k2 (gd t165 true h109 (some (t7, h109))) fun t166 h110 =>
    k2 (gd t165 true h110 (some (t13, h110))) fun t167 h111 =>
    k2 (gd t165 true h111 (zy 1 t166 t167 h111)) fun t168 h112 =>
    k2 (gd t165 true h112 (rdF (fun b => zc t168 b) 0 h112 [(0, h95)])) fun t169 h113 =>
    k2 (gd t165 true h113 (some (t7, h113))) fun t170 h114 =>
    k2 (gd t165 true h114 (some (t14, h114))) fun t171 h115 =>
    k2 (gd t165 true h115 (zy 1 t170 t171 h115)) fun t172 h116 =>
    k2 (gd t165 true h116 (rdF (fun b => zc t172 b) 0 h116 [(0, h95)])) fun t173 h117 =>
    k2 (gd t165 true h117 (vBin .neq .other t169 t173 h117)) fun t174 h118 =>
    k2 (zI t165 t174 (.bool false) h118) fun t175 h119 =>
    k2 (some (t175, h119)) fun t176 h120 =>
    k2 (gd t176 true h120 (X.call (.func (.func n_A) #[] #[]) [] h120)) fun t177 h121 =>
    k2 (zI t176 t177 (.bool false) h121) fun t178 h122 =>
    k2 (some (t178, h122)) fun t6 h123 =>
    some (.val (zf [t6]) h123))) := by kernel_rfl
theorem s_e_2 (X : Rn) (t1 t2 t3 t7 t9 t10 : Value) (h : H) : sh X c_e_2 (K_e_2 X) (setL [p1, p2, p3, p7, p9, p10] [t1, t2, t3, t7, t9, t10]) h =
    k2 (some (t10, h)) fun t47 h1 =>
    k2 (vBin .add .other t47 (.int .i64 1) h1) fun t48 h2 =>
    k2 (some (t48, h2)) fun t10_3 h4 =>
    lp X [p1, p2, p3, p7, p9, p10] c_e_1 (kBlk 0 (kSeq X c_e_0 [p1, p2, p3, p7, p9] (K_e_0 X))) [t1, t2, t3, t7, t9, t10_3] h4 := by kernel_rfl
theorem s_e_4 (X : Rn) (t1 t2 t3 t7 t9 t10 t11 : Value) (h : H) : sh X c_e_4 (K_e_4 X) (setL [p1, p2, p3, p7, p9, p10, p11] [t1, t2, t3, t7, t9, t10, t11]) h =
    k2 (some (t11, h)) fun t53 h1 =>
    k2 (vBin .add .other t53 (.int .i64 1) h1) fun t54 h2 =>
    k2 (some (t54, h2)) fun t11_3 h4 =>
    lp X [p1, p2, p3, p7, p9, p10, p11] c_e_3 (kBlk 2 (kBlk 1 (kSeq X c_e_2 [p1, p2, p3, p7, p9, p10] (K_e_2 X)))) [t1, t2, t3, t7, t9, t10, t11_3] h4 := by kernel_rfl
theorem s_e_3 (X : Rn) (t1 t2 t3 t7 t9 t10 t11 : Value) (h : H) : sh X c_e_3 (K_e_3 X) (setL [p1, p2, p3, p7, p9, p10, p11] [t1, t2, t3, t7, t9, t10, t11]) h =
    k2 (some (t11, h)) fun t49 h1 =>
    k2 (some (t7, h1)) fun t50 h2 =>
    k2 (bltV h2 .len [t50]) fun t51 h3 =>
    k2 (vBin .lss .other t49 t51 h3) fun t52 h4 =>
    br t52
      (k2 (some (t7, h4)) fun t55 h5 =>
    k2 (some (t10, h5)) fun t56 h6 =>
    k2 (zy 1 t55 t56 h6) fun t57 h7 =>
    k2 (rdF (fun b => zc t57 b) 0 h7 [(0, h4)]) fun t58 h8 =>
    k2 (some (t7, h8)) fun t59 h9 =>
    k2 (some (t11, h9)) fun t60 h10 =>
    k2 (zy 1 t59 t60 h10) fun t61 h11 =>
    k2 (rdF (fun b => zc t61 b) 0 h11 [(0, h4)]) fun t62 h12 =>
    k2 (vBin .eql .other t58 t62 h12) fun t63 h13 =>
    br t63
      (k2 (some (t9, h13)) fun t64 h14 =>
    k2 (some (t10, h14)) fun t65 h15 =>
    k2 (some (t11, h15)) fun t66 h16 =>
    k2 ((zq [(.int .i64 0), (.int .i64 0)] [(0, 1, t65), (1, 1, t66)]).map fun c => (Value.agg ⟨c⟩, h16)) fun t67 h17 =>
    k2 (zV 1 (zq (zu [(.int .i64 0), (.int .i64 0)] 1) [(0 * 2, 2, t67)]) h17) fun t68 h18 =>
    k2 (bltV h18 (.append 2 16) [t64, t68]) fun t69 h19 =>
    k2 (some (t69, h19)) fun t9_20 h21 =>
    sh X c_e_4 (K_e_4 X) (setL [p1, p2, p3, p7, p9, p10, p11] [t1, t2, t3, t7, t9_20, t10, t11]) h21)
      (sh X c_e_4 (K_e_4 X) (setL [p1, p2, p3, p7, p9, p10, p11] [t1, t2, t3, t7, t9, t10, t11]) h13))
      (sh X c_e_2 (K_e_2 X) (setL [p1, p2, p3, p7, p9, p10] [t1, t2, t3, t7, t9, t10]) h4) := by kernel_rfl
theorem l_e_3 (F : FuncId → Option zw) (t1 t2 t3 t7 t9 t10 t11 : Value) (h : H) {r : Out} : let X := rI F; sh X c_e_3 (K_e_3 X) (setL [p1, p2, p3, p7, p9, p10, p11] [t1, t2, t3, t7, t9, t10, t11]) h = some r → lp X [p1, p2, p3, p7, p9, p10, p11] c_e_3 (kBlk 2 (kBlk 1 (kSeq X c_e_2 [p1, p2, p3, p7, p9, p10] (K_e_2 X)))) [t1, t2, t3, t7, t9, t10, t11] h = some r := fun hv => zbp (by decide) hv
theorem s_e_1 (X : Rn) (t1 t2 t3 t7 t9 t10 : Value) (h : H) : sh X c_e_1 (K_e_1 X) (setL [p1, p2, p3, p7, p9, p10] [t1, t2, t3, t7, t9, t10]) h =
    k2 (some (t10, h)) fun t43 h1 =>
    k2 (some (t7, h1)) fun t44 h2 =>
    k2 (bltV h2 .len [t44]) fun t45 h3 =>
    k2 (vBin .lss .other t43 t45 h3) fun t46 h4 =>
    br t46
      (k2 (some ((.int .i64 0), h4)) fun t11 h5 =>
    lp X [p1, p2, p3, p7, p9, p10, p11] c_e_3 (kBlk 2 (kBlk 1 (kSeq X c_e_2 [p1, p2, p3, p7, p9, p10] (K_e_2 X)))) [t1, t2, t3, t7, t9, t10, t11] h5)
      (sh X c_e_0 (K_e_0 X) (setL [p1, p2, p3, p7, p9] [t1, t2, t3, t7, t9]) h4) := by kernel_rfl
theorem l_e_1 (F : FuncId → Option zw) (t1 t2 t3 t7 t9 t10 : Value) (h : H) {r : Out} : let X := rI F; sh X c_e_1 (K_e_1 X) (setL [p1, p2, p3, p7, p9, p10] [t1, t2, t3, t7, t9, t10]) h = some r → lp X [p1, p2, p3, p7, p9, p10] c_e_1 (kBlk 0 (kSeq X c_e_0 [p1, p2, p3, p7, p9] (K_e_0 X))) [t1, t2, t3, t7, t9, t10] h = some r := fun hv => zbp (by decide) hv
theorem s_e (X : Rn) (t0 t1 t2 : Value) (h : H) : zt X 3 f_e [t0, t1, t2] h =
    k2 (some (zj h (zl t0))) fun t3 h1 =>
    k2 (some ((.bool false), h1)) fun t6 h2 =>
    k2 (zi 3 t3 h2) fun t21 h3 =>
    k2 (X.call (.func (.func n_G) #[] #[]) [t21] h3) fun t22 h4 =>
    k2 (some (t22, h4)) fun t20 h5 =>
    k2 (zn 0 t20 h5) fun t23 h6 =>
    k2 (zn 1 t20 h6) fun t24 h7 =>
    k2 (some (t23, h7)) fun t7 h8 =>
    k2 (some (t24, h8)) fun t8 h9 =>
    k2 (some (t8, h9)) fun t25 h10 =>
    k2 (vBin .neq .other t25 (.int .i64 0) h10) fun t26 h11 =>
    br t26
      (k2 (some (t7, h11)) fun t27 h12 =>
    k2 (bltV h12 .len [t27]) fun t28 h13 =>
    k2 (vBin .eql .other t28 (.int .i64 0) h13) fun t29 h14 =>
    k2 (some (t29, h14)) fun t30 h15 =>
    k2 (gd t30 true h15 (X.call (.func (.func n_A) #[] #[]) [] h15)) fun t31 h16 =>
    k2 (zI t30 t31 (.bool false) h16) fun t32 h17 =>
    k2 (some (t32, h17)) fun t6 h18 =>
    some (.val (zf [t6]) h18))
      (k2 (some (t7, h11)) fun t33 h19 =>
    k2 (bltV h19 .len [t33]) fun t34 h20 =>
    k2 (zd 0 t3 h20) fun t35 h21 =>
    k2 (zc t35 h21) fun t36 h22 =>
    k2 (vBin .neq .other t34 t36 h22) fun t37 h23 =>
    k2 (some (t37, h23)) fun t38 h24 =>
    k2 (gd t38 false h24 (zd 0 t3 h24)) fun t39 h25 =>
    k2 (gd t38 false h25 (zc t39 h25)) fun t40 h26 =>
    k2 (gd t38 false h26 (vBin .lss .other t40 (.int .i64 1) h26)) fun t41 h27 =>
    k2 (zI t38 (.bool true) t41 h27) fun t42 h28 =>
    br t42
      (k2 (some ((.bool false), h28)) fun t6 h29 =>
    some (.val (zf [t6]) h29))
      (k2 (some ((.slice none 0 0), h28)) fun t9 h30 =>
    k2 (some ((.int .i64 0), h30)) fun t10 h31 =>
    lp X [p1, p2, p3, p7, p9, p10] c_e_1 (kBlk 0 (kSeq X c_e_0 [p1, p2, p3, p7, p9] (K_e_0 X))) [t1, t2, t3, t7, t9, t10] h31)) := by kernel_rfl
theorem s_m_0 (X : Rn) (h : H) : sh X zgr (K_m_0 X) (setL [] []) h =
    k2 (some ((.int .i64 0), h)) fun t2 h1 =>
    some (.val (zf [t2]) h1) := by kernel_rfl
theorem s_m_1 (X : Rn) (t1 t30 t31 t32 : Value) (h : H) : sh X zfX (K_m_1 X) (setL [p1, p30, p31, p32] [t1, t30, t31, t32]) h =
    k2 (vBin .lss .other t32 t31 h) fun t33 h1 =>
    br t33
      (k2 (some (t32, h1)) fun t34 h2 =>
    k2 (zy 3 t30 t32 h2) fun t35 h3 =>
    k2 (zi 3 t35 h3) fun t36 h4 =>
    k2 (some (zj h4 [(.int .i64 0), (.int .i64 0), (.int .i64 0)])) fun t4 h5 =>
    k2 (some (t34, h5)) fun t3 h6 =>
    k2 (zo 3 t4 t36 h6) fun _ h7 =>
    k2 (zd 0 t4 h7) fun t37 h8 =>
    k2 (rdF (fun b => zc t37 b) 0 h8 [(0, h7)]) fun t38 h9 =>
    k2 (zd 1 t4 h9) fun t39 h10 =>
    k2 (rdF (fun b => zc t39 b) 0 h10 [(0, h7)]) fun t40 h11 =>
    k2 (zd 2 t4 h11) fun t41 h12 =>
    k2 (rdF (fun b => zc t41 b) 0 h12 [(0, h7)]) fun t42 h13 =>
    k2 (bltV h13 .min [t38, t40, t42]) fun t43 h14 =>
    k2 (vBin .lss .other t43 (.int .i64 0) h14) fun t44 h15 =>
    k2 (some (t44, h15)) fun t45 h16 =>
    k2 (gd t45 false h16 (zd 0 t4 h16)) fun t46 h17 =>
    k2 (gd t45 false h17 (rdF (fun b => zc t46 b) 0 h17 [(0, h7)])) fun t47 h18 =>
    k2 (gd t45 false h18 (zd 1 t4 h18)) fun t48 h19 =>
    k2 (gd t45 false h19 (rdF (fun b => zc t48 b) 0 h19 [(0, h7)])) fun t49 h20 =>
    k2 (gd t45 false h20 (bltV h20 .max [t47, t49])) fun t50 h21 =>
    k2 (gd t45 false h21 (zd 0 t1 h21)) fun t51 h22 =>
    k2 (gd t45 false h22 (rdF (fun b => zc t51 b) 0 h22 [(0, h7)])) fun t52 h23 =>
    k2 (gd t45 false h23 (vBin .geq .other t50 t52 h23)) fun t53 h24 =>
    k2 (zI t45 (.bool true) t53 h24) fun t54 h25 =>
    k2 (some (t54, h25)) fun t55 h26 =>
    k2 (gd t55 false h26 (zd 2 t4 h26)) fun t56 h27 =>
    k2 (gd t55 false h27 (rdF (fun b => zc t56 b) 0 h27 [(0, h7)])) fun t57 h28 =>
    k2 (gd t55 false h28 (zd 1 t1 h28)) fun t58 h29 =>
    k2 (gd t55 false h29 (rdF (fun b => zc t58 b) 0 h29 [(0, h7)])) fun t59 h30 =>
    k2 (gd t55 false h30 (vBin .geq .other t57 t59 h30)) fun t60 h31 =>
    k2 (zI t55 (.bool true) t60 h31) fun t61 h32 =>
    k2 (some (t61, h32)) fun t62 h33 =>
    k2 (gd t62 false h33 (some (t3, h33))) fun t63 h34 =>
    k2 (gd t62 false h34 (vBin .gtr .other t63 (.int .i64 0) h34)) fun t64 h35 =>
    k2 (gd t62 false h35 (some (t64, h35))) fun t65 h36 =>
    k2 (gd t65 true h36 (zd 2 t1 h36)) fun t66 h37 =>
    k2 (gd t65 true h37 (rdF (fun b => zc t66 b) 0 h37 [(0, h7)])) fun t67 h38 =>
    k2 (gd t65 true h38 (some (t3, h38))) fun t68 h39 =>
    k2 (gd t65 true h39 (vBin .sub .other t68 (.int .i64 1) h39)) fun t69 h40 =>
    k2 (gd t65 true h40 (zy 3 t67 t69 h40)) fun t70 h41 =>
    k2 (gd t65 true h41 (rdF (fun b => zi 3 t70 b) 0 h41 [(0, h7)])) fun t71 h42 =>
    k2 (gd t65 true h42 (rdF (fun b => zi 3 t4 b) 0 h42 [(0, h7)])) fun t72 h43 =>
    k2 (gd t65 true h43 (X.call (.func (.func n_H) #[] #[]) [t71, t72] h43)) fun t73 h44 =>
    k2 (gd t65 true h44 (vBin .geq .other t73 (.int .i64 0) h44)) fun t74 h45 =>
    k2 (gd t62 false h45 (zI t65 t74 (.bool false) h45)) fun t75 h46 =>
    k2 (zI t62 (.bool true) t75 h46) fun t76 h47 =>
    br t76
      (k2 (some ((.int .i64 2), h47)) fun t2 h48 =>
    some (.val (zf [t2]) h48))
      (k2 (vBin .add .other t32 (.int .i64 1) h47) fun t77 h49 =>
    k2 (some (t77, h49)) fun t32_50 h51 =>
    lp X [p1, p30, p31, p32] zfX (kBlk 0 (kSeq X zgr [] (K_m_0 X))) [t1, t30, t31, t32_50] h51))
      (sh X zgr (K_m_0 X) (setL [] []) h1) := by kernel_rfl
theorem l_m_1 (F : FuncId → Option zw) (t1 t30 t31 t32 : Value) (h : H) {r : Out} : let X := rI F; sh X zfX (K_m_1 X) (setL [p1, p30, p31, p32] [t1, t30, t31, t32]) h = some r → lp X [p1, p30, p31, p32] zfX (kBlk 0 (kSeq X zgr [] (K_m_0 X))) [t1, t30, t31, t32] h = some r := fun hv => zbp (by decide) hv
theorem s_m (X : Rn) (t0 : Value) (h : H) : zt X 1 f_m [t0] h =
    k2 (some (zj h (zl t0))) fun t1 h1 =>
    k2 (some ((.int .i64 0), h1)) fun t2 h2 =>
    k2 (zd 0 t1 h2) fun t5 h3 =>
    k2 (zc t5 h3) fun t6 h4 =>
    k2 (vBin .lss .other t6 (.int .i64 1) h4) fun t7 h5 =>
    k2 (some (t7, h5)) fun t8 h6 =>
    k2 (gd t8 false h6 (zd 0 t1 h6)) fun t9 h7 =>
    k2 (gd t8 false h7 (zc t9 h7)) fun t10 h8 =>
    k2 (gd t8 false h8 (vBin .gtr .other t10 (.int .i64 60) h8)) fun t11 h9 =>
    k2 (zI t8 (.bool true) t11 h9) fun t12 h10 =>
    k2 (some (t12, h10)) fun t13 h11 =>
    k2 (gd t13 false h11 (zd 1 t1 h11)) fun t14 h12 =>
    k2 (gd t13 false h12 (zc t14 h12)) fun t15 h13 =>
    k2 (gd t13 false h13 (vBin .lss .other t15 (.int .i64 1) h13)) fun t16 h14 =>
    k2 (zI t13 (.bool true) t16 h14) fun t17 h15 =>
    k2 (some (t17, h15)) fun t18 h16 =>
    k2 (gd t18 false h16 (zd 1 t1 h16)) fun t19 h17 =>
    k2 (gd t18 false h17 (zc t19 h17)) fun t20 h18 =>
    k2 (gd t18 false h18 (vBin .gtr .other t20 (.int .i64 41) h18)) fun t21 h19 =>
    k2 (zI t18 (.bool true) t21 h19) fun t22 h20 =>
    k2 (some (t22, h20)) fun t23 h21 =>
    k2 (gd t23 false h21 (zd 2 t1 h21)) fun t24 h22 =>
    k2 (gd t23 false h22 (zc t24 h22)) fun t25 h23 =>
    k2 (gd t23 false h23 (bltV h23 .len [t25])) fun t26 h24 =>
    k2 (gd t23 false h24 (vBin .gtr .other t26 (.int .i64 400) h24)) fun t27 h25 =>
    k2 (zI t23 (.bool true) t27 h25) fun t28 h26 =>
    br t28
      (k2 (some ((.int .i64 2), h26)) fun t2 h27 =>
    some (.val (zf [t2]) h27))
      (k2 (zd 2 t1 h26) fun t29 h28 =>
    k2 (zc t29 h28) fun t30 h29 =>
    k2 (bltV h29 .len [t30]) fun t31 h30 =>
    k2 (some ((.int .i64 0), h30)) fun t32 h31 =>
    lp X [p1, p30, p31, p32] zfX (kBlk 0 (kSeq X zgr [] (K_m_0 X))) [t1, t30, t31, t32] h31) := by kernel_rfl
theorem s_I (X : Rn) (t0 t1 t2 : Value) (h : H) : zt X 3 f_I [t0, t1, t2] h =
    k2 (some (zj h (zl t0))) fun t3 h1 =>
    k2 (some (zj h1 [(.int .i64 0), (.int .i64 0), (.slice none 0 0)])) fun t6 h2 =>
    k2 (some ((.int .i64 0), h2)) fun t7 h3 =>
    k2 (zi 3 t3 h3) fun t11 h4 =>
    k2 (some (t1, h4)) fun t12 h5 =>
    k2 (X.call (.func (.func n_E) #[] #[]) [t11, t12] h5) fun t13 h6 =>
    k2 (vUn .not t13 h6) fun t14 h7 =>
    k2 (some (t14, h7)) fun t15 h8 =>
    k2 (gd t15 false h8 (zi 3 t3 h8)) fun t16 h9 =>
    k2 (gd t15 false h9 (some (t2, h9))) fun t17 h10 =>
    k2 (gd t15 false h10 (X.call (.func (.func n_E) #[] #[]) [t16, t17] h10)) fun t18 h11 =>
    k2 (gd t15 false h11 (vUn .not t18 h11)) fun t19 h12 =>
    k2 (zI t15 (.bool true) t19 h12) fun t20 h13 =>
    br t20
      (k2 ((zq [(.int .i64 0), (.int .i64 0), (.slice none 0 0)] []).map fun c => (Value.agg ⟨c⟩, h13)) fun t21 h14 =>
    k2 (zo 3 t6 t21 h14) fun _ h15 =>
    k2 (some ((.int .i64 2), h15)) fun t7 h16 =>
    (vRes (some 3) t6 h16).bind fun r0 => some (.val (zf [r0, t7]) h16))
      (k2 (rdF (fun b => zi 3 t3 b) 0 h13 [(0, h13)]) fun t22 h17 =>
    k2 (X.call (.func (.func n_b) #[] #[]) [t22] h17) fun t23 h18 =>
    k2 (rdF (fun b => zi 3 t3 b) 0 h18 [(1, h18), (0, h13)]) fun t24 h19 =>
    k2 (some (.map (some h19.next), h19.new (.map [] 0))) fun t25 h20 =>
    k2 ((zq [(.map none), (.int .i64 0), (.int .i64 0), (.slice none 0 0), (.map none)] [(0, 1, t23), (1, 3, t24), (4, 1, t25)]).map fun c => (Value.agg ⟨c⟩, h20)) fun t26 h21 =>
    k2 (some (zj h21 [(.map none), (.int .i64 0), (.int .i64 0), (.slice none 0 0), (.map none)])) fun t8 h22 =>
    k2 (zo 5 t8 t26 h22) fun _ h23 =>
    k2 (zd 0 t8 h23) fun t28 h24 =>
    k2 (zc t28 h24) fun t29 h25 =>
    k2 (some (t1, h25)) fun t30 h26 =>
    k2 (some (t2, h26)) fun t31 h27 =>
    k2 ((zq [(.int .i64 0), (.int .i64 0)] [(0, 1, t30), (1, 1, t31)]).map fun c => (Value.agg ⟨c⟩, h27)) fun t32 h28 =>
    k2 (zbo (.leaves [0, 1]) (.int .i64 0) true t29 t32 h28) fun t33 h29 =>
    k2 (some (t33, h29)) fun t27 h30 =>
    k2 (zn 0 t27 h30) fun t34 h31 =>
    k2 (zn 1 t27 h31) fun t35 h32 =>
    k2 (some (t34, h32)) fun t9 h33 =>
    k2 (some (t35, h33)) fun t10 h34 =>
    k2 (some (t10, h34)) fun t36 h35 =>
    k2 (vUn .not t36 h35) fun t37 h36 =>
    br t37
      (k2 ((zq [(.int .i64 0), (.int .i64 0), (.slice none 0 0)] []).map fun c => (Value.agg ⟨c⟩, h36)) fun t38 h37 =>
    k2 (zo 3 t6 t38 h37) fun _ h38 =>
    k2 (some ((.int .i64 5), h38)) fun t7 h39 =>
    (vRes (some 3) t6 h39).bind fun r0 => some (.val (zf [r0, t7]) h39))
      (k2 (zi 5 t8 h36) fun t39 h40 =>
    k2 (some (t1, h40)) fun t40 h41 =>
    k2 (some (t2, h41)) fun t41 h42 =>
    k2 (X.call (.func (.func n_i) #[] #[]) [t39, t40, t41] h42) fun t42 h43 =>
    k2 (vBin .gtr .other t42 (.int .i64 3000) h43) fun t43 h44 =>
    br t43
      (k2 ((zq [(.int .i64 0), (.int .i64 0), (.slice none 0 0)] []).map fun c => (Value.agg ⟨c⟩, h44)) fun t44 h45 =>
    k2 (zo 3 t6 t44 h45) fun _ h46 =>
    k2 (some ((.int .i64 3), h46)) fun t7 h47 =>
    (vRes (some 3) t6 h47).bind fun r0 => some (.val (zf [r0, t7]) h47))
      (k2 (zi 5 t8 h44) fun t45 h48 =>
    k2 (some (t1, h48)) fun t46 h49 =>
    k2 (some (t2, h49)) fun t47 h50 =>
    k2 (X.call (.func (.func n_f) #[] #[]) [t45, t46, t47] h50) fun t48 h51 =>
    k2 (zo 3 t6 t48 h51) fun _ h52 =>
    k2 (some ((.int .i64 0), h52)) fun t7 h53 =>
    (vRes (some 3) t6 h53).bind fun r0 => some (.val (zf [r0, t7]) h53)))) := by kernel_rfl
theorem s_K (X : Rn) (t0 t1 t2 : Value) (h : H) : zt X 3 f_K [t0, t1, t2] h =
    k2 (some (zj h (zl t0))) fun t3 h1 =>
    k2 (some (zj h1 (zl t1))) fun t4 h2 =>
    k2 (some ((.bool false), h2)) fun t6 h3 =>
    k2 (some ((.int .i64 0), h3)) fun t7 h4 =>
    k2 (some (zj h4 [(.int .i64 0)])) fun t8 h5 =>
    k2 (zo 1 t8 (.int .i64 3000) h5) fun _ h6 =>
    k2 (zi 3 t3 h6) fun t9 h7 =>
    k2 (some (t2, h7)) fun t10 h8 =>
    k2 (X.call (.func (.func n_E) #[] #[]) [t9, t10] h8) fun t11 h9 =>
    k2 (vUn .not t11 h9) fun t12 h10 =>
    k2 (some (t12, h10)) fun t13 h11 =>
    k2 (gd t13 false h11 (zi 3 t3 h11)) fun t14 h12 =>
    k2 (gd t13 false h12 (zi 3 t4 h12)) fun t15 h13 =>
    k2 (gd t13 false h13 (X.call (.func (.func n_o) #[] #[]) [t14, t15, t8] h13)) fun t16 h14 =>
    k2 (gd t13 false h14 (vUn .not t16 h14)) fun t17 h15 =>
    k2 (zI t13 (.bool true) t17 h15) fun t18 h16 =>
    br t18
      (k2 (some ((.bool false), h16)) fun t6 h17 =>
    k2 (some ((.int .i64 2), h17)) fun t7 h18 =>
    some (.val (zf [t6, t7]) h18))
      (k2 (zi 3 t3 h16) fun t19 h19 =>
    k2 (zi 3 t4 h19) fun t20 h20 =>
    k2 (X.call (.func (.func n_h) #[] #[]) [t19, t20] h20) fun t21 h21 =>
    k2 (some (t2, h21)) fun t22 h22 =>
    k2 (zy 1 t21 t22 h22) fun t23 h23 =>
    k2 (zc t23 h23) fun t24 h24 =>
    k2 (some (t24, h24)) fun t6 h25 =>
    k2 (some ((.int .i64 0), h25)) fun t7 h26 =>
    some (.val (zf [t6, t7]) h26)) := by kernel_rfl
theorem s_G (X : Rn) (t0 : Value) (h : H) : zt X 1 f_G [t0] h =
    k2 (some (zj h (zl t0))) fun t1 h1 =>
    k2 (some ((.slice none 0 0), h1)) fun t2 h2 =>
    k2 (some ((.int .i64 0), h2)) fun t3 h3 =>
    k2 (zi 3 t1 h3) fun t4 h4 =>
    k2 (X.call (.func (.func n_m) #[] #[]) [t4] h4) fun t5 h5 =>
    k2 (vBin .neq .other t5 (.int .i64 0) h5) fun t6 h6 =>
    br t6
      (k2 (some ((.slice none 0 0), h6)) fun t2 h7 =>
    k2 (some ((.int .i64 2), h7)) fun t3 h8 =>
    some (.val (zf [t2, t3]) h8))
      (k2 (zi 3 t1 h6) fun t7 h9 =>
    k2 (X.call (.func (.func n_d) #[] #[]) [t7] h9) fun t8 h10 =>
    k2 (some (t8, h10)) fun t2 h11 =>
    k2 (some ((.int .i64 0), h11)) fun t3 h12 =>
    some (.val (zf [t2, t3]) h12)) := by kernel_rfl
theorem s_H (X : Rn) (t0 t1 : Value) (h : H) : zt X 2 f_H [t0, t1] h =
    k2 (some (zj h (zl t0))) fun t2 h1 =>
    k2 (some (zj h1 (zl t1))) fun t3 h2 =>
    k2 (some ((.int .i64 0), h2)) fun t4 h3 =>
    k2 (zd 0 t2 h3) fun t5 h4 =>
    k2 (rdF (fun b => zc t5 b) 0 h4 [(0, h3)]) fun t6 h5 =>
    k2 (zd 0 t3 h5) fun t7 h6 =>
    k2 (rdF (fun b => zc t7 b) 0 h6 [(0, h3)]) fun t8 h7 =>
    k2 (X.call (.func (.func n_z) #[] #[]) [t6, t8] h7) fun t9 h8 =>
    k2 (zd 2 t2 h8) fun t10 h9 =>
    k2 (rdF (fun b => zc t10 b) 0 h9 [(1, h8), (0, h3)]) fun t11 h10 =>
    k2 (zd 2 t3 h10) fun t12 h11 =>
    k2 (rdF (fun b => zc t12 b) 0 h11 [(1, h8), (0, h3)]) fun t13 h12 =>
    k2 (X.call (.func (.func n_z) #[] #[]) [t11, t13] h12) fun t14 h13 =>
    k2 (zd 1 t2 h13) fun t15 h14 =>
    k2 (rdF (fun b => zc t15 b) 0 h14 [(2, h13), (1, h8), (0, h3)]) fun t16 h15 =>
    k2 (zd 1 t3 h15) fun t17 h16 =>
    k2 (rdF (fun b => zc t17 b) 0 h16 [(2, h13), (1, h8), (0, h3)]) fun t18 h17 =>
    k2 (X.call (.func (.func n_z) #[] #[]) [t16, t18] h17) fun t19 h18 =>
    k2 (zV 3 (zq (zu [(.int .i64 0)] 3) [(0 * 1, 1, t9), (1 * 1, 1, t14), (2 * 1, 1, t19)]) h18) fun t20 h19 =>
    k2 (X.call (.func (.func n_t) #[] #[]) [t20] h19) fun t21 h20 =>
    k2 (some (t21, h20)) fun t4 h21 =>
    some (.val (zf [t4]) h21) := by kernel_rfl
theorem s_E (X : Rn) (t0 t1 : Value) (h : H) : zt X 2 f_E [t0, t1] h =
    k2 (some (zj h (zl t0))) fun t2 h1 =>
    k2 (some ((.bool false), h1)) fun t4 h2 =>
    k2 (zi 3 t2 h2) fun t5 h3 =>
    k2 (X.call (.func (.func n_m) #[] #[]) [t5] h3) fun t6 h4 =>
    k2 (vBin .eql .other t6 (.int .i64 0) h4) fun t7 h5 =>
    k2 (some (t7, h5)) fun t8 h6 =>
    k2 (gd t8 true h6 (some (t1, h6))) fun t9 h7 =>
    k2 (gd t8 true h7 (vBin .geq .other t9 (.int .i64 0) h7)) fun t10 h8 =>
    k2 (zI t8 t10 (.bool false) h8) fun t11 h9 =>
    k2 (some (t11, h9)) fun t12 h10 =>
    k2 (gd t12 true h10 (some (t1, h10))) fun t13 h11 =>
    k2 (gd t12 true h11 (zd 0 t2 h11)) fun t14 h12 =>
    k2 (gd t12 true h12 (zc t14 h12)) fun t15 h13 =>
    k2 (gd t12 true h13 (vBin .lss .other t13 t15 h13)) fun t16 h14 =>
    k2 (zI t12 t16 (.bool false) h14) fun t17 h15 =>
    k2 (some (t17, h15)) fun t4 h16 =>
    some (.val (zf [t4]) h16) := by kernel_rfl
theorem s_b_1 (X : Rn) (t1 t3 t4 : Value) (h : H) : sh X c_b_1 (K_b_1 X) (setL [p1, p3, p4] [t1, t3, t4]) h =
    k2 (some (t4, h)) fun t15 h1 =>
    k2 (vBin .add .other t15 (.int .i64 1) h1) fun t16 h2 =>
    k2 (some (t16, h2)) fun t4_3 h4 =>
    lp X [p1, p3, p4] zg8 (kBlk 0 (fnK [.tmp p2])) [t1, t3, t4_3] h4 := by kernel_rfl
theorem s_b_8 (X : Rn) (t1 t3 t4 t70 t71 t72 : Value) (h : H) : sh X zg4 (K_b_8 X) (setL [p1, p3, p4, p70, p71, p72] [t1, t3, t4, t70, t71, t72]) h =
    k2 (vBin .lss .other t72 t71 h) fun t73 h1 =>
    br t73
      (k2 (zy 2 t70 t72 h1) fun t74 h2 =>
    k2 (zi 2 t74 h2) fun t75 h3 =>
    k2 (some (zj h3 [(.int .i64 0), (.int .i64 0)])) fun t13 h4 =>
    k2 (zo 2 t13 t75 h4) fun _ h5 =>
    k2 (some (t3, h5)) fun t76 h6 =>
    k2 (rdF (fun b => zi 2 t13 b) 0 h6 [(0, h5)]) fun t77 h7 =>
    k2 (some (t4, h7)) fun t84 h8 =>
    k2 (zdh (.leaves [0, 1]) h8 t77 t84 t76) fun _ h9 =>
    k2 (some (t3, h9)) fun t78 h10 =>
    k2 (zbf 2 1 t13 (.int .i64 1) h10) fun t79 h11 =>
    k2 (rdF (fun b => zc t79 b) 0 h11 [(1, h9), (0, h5)]) fun t80 h12 =>
    k2 (zbf 2 1 t13 (.int .i64 0) h12) fun t81 h13 =>
    k2 (rdF (fun b => zc t81 b) 0 h13 [(1, h9), (0, h5)]) fun t82 h14 =>
    k2 ((zq [(.int .i64 0), (.int .i64 0)] [(0, 1, t80), (1, 1, t82)]).map fun c => (Value.agg ⟨c⟩, h14)) fun t83 h15 =>
    k2 (some (t4, h15)) fun t85 h16 =>
    k2 (zdh (.leaves [0, 1]) h16 t83 t85 t78) fun _ h17 =>
    k2 (vBin .add .other t72 (.int .i64 1) h17) fun t86 h18 =>
    k2 (some (t86, h18)) fun t72_19 h20 =>
    lp X [p1, p3, p4, p70, p71, p72] zg4 (kBlk 6 (ziJ X)) [t1, t3, t4, t70, t71, t72_19] h20)
      (sh X c_b_1 (K_b_1 X) (setL [p1, p3, p4] [t1, t3, t4]) h1) := by kernel_rfl
theorem l_b_8 (F : FuncId → Option zw) (t1 t3 t4 t70 t71 t72 : Value) (h : H) {r : Out} : let X := rI F; sh X zg4 (K_b_8 X) (setL [p1, p3, p4, p70, p71, p72] [t1, t3, t4, t70, t71, t72]) h = some r → lp X [p1, p3, p4, p70, p71, p72] zg4 (kBlk 6 (ziJ X)) [t1, t3, t4, t70, t71, t72] h = some r := fun hv => zbp (by decide) hv
theorem s_b_2 (X : Rn) (t1 t3 t4 t5 : Value) (h : H) : sh X zgs (ziJ X) (setL [p1, p3, p4, p5] [t1, t3, t4, t5]) h =
    k2 (some (t5, h)) fun t66 h1 =>
    k2 (bltV h1 .len [t66]) fun t67 h2 =>
    k2 (vBin .eql .other t67 (.int .i64 0) h2) fun t68 h3 =>
    br t68
      (k2 (some (t3, h3)) fun t69 h4 =>
    k2 (some (t69, h4)) fun t2 h5 =>
    some (.val (zf [t2]) h5))
      (k2 (some (t5, h3)) fun t70 h6 =>
    k2 (bltV h6 .len [t70]) fun t71 h7 =>
    k2 (some ((.int .i64 0), h7)) fun t72 h8 =>
    lp X [p1, p3, p4, p70, p71, p72] zg4 (kBlk 6 (ziJ X)) [t1, t3, t4, t70, t71, t72] h8) := by kernel_rfl
theorem s_b_4 (X : Rn) (t1 t3 t4 t5 t18 t19 : Value) (h : H) : sh X zg6 (K_b_4 X) (setL [p1, p3, p4, p5, p18, p19] [t1, t3, t4, t5, t18, t19]) h =
    k2 (vBin .add .other t19 (.int .i64 1) h) fun t65 h1 =>
    k2 (some (t65, h1)) fun t19_2 h3 =>
    lp X [p1, p3, p4, p5, p18, p19] zg7 (kBlk 2 (kSeq X zgs [p1, p3, p4, p5] (ziJ X))) [t1, t3, t4, t5, t18, t19_2] h3 := by kernel_rfl
theorem s_b_6 (X : Rn) (t1 t3 t4 t5 t6 t18 t19 t22 t23 : Value) (h : H) : sh X zik (K_b_6 X) (setL [p1, p3, p4, p5, p6, p18, p19, p22, p23] [t1, t3, t4, t5, t6, t18, t19, t22, t23]) h =
    k2 (vBin .add .other t23 (.int .i64 1) h) fun t64 h1 =>
    k2 (some (t64, h1)) fun t23_2 h3 =>
    lp X [p1, p3, p4, p5, p6, p18, p19, p22, p23] zg5 (kBlk 4 (kBlk 3 (kSeq X zg6 [p1, p3, p4, p5, p18, p19] (K_b_4 X)))) [t1, t3, t4, t5, t6, t18, t19, t22, t23_2] h3 := by kernel_rfl
theorem s_b_7 (X : Rn) (t1 t3 t4 t5 t6 t7 t11 t18 t19 t22 t23 : Value) (h : H) : sh X c_b_7 (K_b_7 X) (setL [p1, p3, p4, p5, p6, p7, p11, p18, p19, p22, p23] [t1, t3, t4, t5, t6, t7, t11, t18, t19, t22, t23]) h =
    k2 (some (t11, h)) fun t57 h1 =>
    br t57
      (k2 (some (t5, h1)) fun t58 h2 =>
    k2 (some (t6, h2)) fun t59 h3 =>
    k2 (some (t7, h3)) fun t60 h4 =>
    k2 ((zq [(.int .i64 0), (.int .i64 0)] [(0, 1, t59), (1, 1, t60)]).map fun c => (Value.agg ⟨c⟩, h4)) fun t61 h5 =>
    k2 (zV 1 (zq (zu [(.int .i64 0), (.int .i64 0)] 1) [(0 * 2, 2, t61)]) h5) fun t62 h6 =>
    k2 (bltV h6 (.append 2 16) [t58, t62]) fun t63 h7 =>
    k2 (some (t63, h7)) fun t5_8 h9 =>
    sh X zik (K_b_6 X) (setL [p1, p3, p4, p5, p6, p18, p19, p22, p23] [t1, t3, t4, t5_8, t6, t18, t19, t22, t23]) h9)
      (sh X zik (K_b_6 X) (setL [p1, p3, p4, p5, p6, p18, p19, p22, p23] [t1, t3, t4, t5, t6, t18, t19, t22, t23]) h1) := by kernel_rfl
theorem s_b_5 (X : Rn) (t1 t3 t4 t5 t6 t18 t19 t22 t23 : Value) (h : H) : sh X zg5 (K_b_5 X) (setL [p1, p3, p4, p5, p6, p18, p19, p22, p23] [t1, t3, t4, t5, t6, t18, t19, t22, t23]) h =
    k2 (vBin .lss .other t23 t22 h) fun t24 h1 =>
    br t24
      (k2 (some (t23, h1)) fun t25 h2 =>
    k2 (some (t25, h2)) fun t7 h3 =>
    k2 (some (t3, h3)) fun t27 h4 =>
    k2 (some (t6, h4)) fun t28 h5 =>
    k2 (some (t7, h5)) fun t29 h6 =>
    k2 ((zq [(.int .i64 0), (.int .i64 0)] [(0, 1, t28), (1, 1, t29)]).map fun c => (Value.agg ⟨c⟩, h6)) fun t30 h7 =>
    k2 (zbo (.leaves [0, 1]) (.int .i64 0) true t27 t30 h7) fun t31 h8 =>
    k2 (some (t31, h8)) fun t26 h9 =>
    k2 (zn 0 t26 h9) fun t32 h10 =>
    k2 (zn 1 t26 h10) fun t33 h11 =>
    k2 (some (t32, h11)) fun t8 h12 =>
    k2 (some (t33, h12)) fun t9 h13 =>
    k2 (some (t9, h13)) fun t34 h14 =>
    br t34
      (sh X zik (K_b_6 X) (setL [p1, p3, p4, p5, p6, p18, p19, p22, p23] [t1, t3, t4, t5, t6, t18, t19, t22, t23]) h14)
      (k2 (some (t3, h14)) fun t36 h15 =>
    k2 (zi 3 t1 h15) fun t37 h16 =>
    k2 (some (t6, h16)) fun t38 h17 =>
    k2 (some (t7, h17)) fun t39 h18 =>
    k2 (some (t4, h18)) fun t40 h19 =>
    k2 (vBin .sub .other t40 (.int .i64 1) h19) fun t41 h20 =>
    k2 (X.call (.func (.func n_g) #[] #[]) [t36, t37, t38, t39, t41] h20) fun t42 h21 =>
    k2 (some (t42, h21)) fun t35 h22 =>
    k2 (zn 0 t35 h22) fun t43 h23 =>
    k2 (zn 1 t35 h23) fun t44 h24 =>
    k2 (some (zj h24 [(.int .i64 0), (.int .i64 0), (.int .i64 0)])) fun t10 h25 =>
    k2 (zo 3 t10 t43 h25) fun _ h26 =>
    k2 (some (t44, h26)) fun t11 h27 =>
    k2 (some (t11, h27)) fun t45 h28 =>
    k2 (vUn .not t45 h28) fun t46 h29 =>
    br t46
      (k2 (some (t3, h29)) fun t48 h30 =>
    k2 (zi 3 t1 h30) fun t49 h31 =>
    k2 (some (t7, h31)) fun t50 h32 =>
    k2 (some (t6, h32)) fun t51 h33 =>
    k2 (some (t4, h33)) fun t52 h34 =>
    k2 (vBin .sub .other t52 (.int .i64 1) h34) fun t53 h35 =>
    k2 (X.call (.func (.func n_g) #[] #[]) [t48, t49, t50, t51, t53] h35) fun t54 h36 =>
    k2 (some (t54, h36)) fun t47 h37 =>
    k2 (zn 0 t47 h37) fun t55 h38 =>
    k2 (zn 1 t47 h38) fun t56 h39 =>
    k2 (some (t56, h39)) fun t11_40 h41 =>
    sh X c_b_7 (K_b_7 X) (setL [p1, p3, p4, p5, p6, p7, p11, p18, p19, p22, p23] [t1, t3, t4, t5, t6, t7, t11_40, t18, t19, t22, t23]) h41)
      (sh X c_b_7 (K_b_7 X) (setL [p1, p3, p4, p5, p6, p7, p11, p18, p19, p22, p23] [t1, t3, t4, t5, t6, t7, t11, t18, t19, t22, t23]) h29)))
      (sh X zg6 (K_b_4 X) (setL [p1, p3, p4, p5, p18, p19] [t1, t3, t4, t5, t18, t19]) h1) := by kernel_rfl
theorem l_b_5 (F : FuncId → Option zw) (t1 t3 t4 t5 t6 t18 t19 t22 t23 : Value) (h : H) {r : Out} : let X := rI F; sh X zg5 (K_b_5 X) (setL [p1, p3, p4, p5, p6, p18, p19, p22, p23] [t1, t3, t4, t5, t6, t18, t19, t22, t23]) h = some r → lp X [p1, p3, p4, p5, p6, p18, p19, p22, p23] zg5 (kBlk 4 (kBlk 3 (kSeq X zg6 [p1, p3, p4, p5, p18, p19] (K_b_4 X)))) [t1, t3, t4, t5, t6, t18, t19, t22, t23] h = some r := fun hv => zbp (by decide) hv
theorem s_b_3 (X : Rn) (t1 t3 t4 t5 t18 t19 : Value) (h : H) : sh X zg7 (K_b_3 X) (setL [p1, p3, p4, p5, p18, p19] [t1, t3, t4, t5, t18, t19]) h =
    k2 (vBin .lss .other t19 t18 h) fun t20 h1 =>
    br t20
      (k2 (some (t19, h1)) fun t21 h2 =>
    k2 (some (t21, h2)) fun t6 h3 =>
    k2 (some (t6, h3)) fun t22 h4 =>
    k2 (some ((.int .i64 0), h4)) fun t23 h5 =>
    lp X [p1, p3, p4, p5, p6, p18, p19, p22, p23] zg5 (kBlk 4 (kBlk 3 (kSeq X zg6 [p1, p3, p4, p5, p18, p19] (K_b_4 X)))) [t1, t3, t4, t5, t6, t18, t19, t22, t23] h5)
      (sh X zgs (ziJ X) (setL [p1, p3, p4, p5] [t1, t3, t4, t5]) h1) := by kernel_rfl
theorem l_b_3 (F : FuncId → Option zw) (t1 t3 t4 t5 t18 t19 : Value) (h : H) {r : Out} : let X := rI F; sh X zg7 (K_b_3 X) (setL [p1, p3, p4, p5, p18, p19] [t1, t3, t4, t5, t18, t19]) h = some r → lp X [p1, p3, p4, p5, p18, p19] zg7 (kBlk 2 (kSeq X zgs [p1, p3, p4, p5] (ziJ X))) [t1, t3, t4, t5, t18, t19] h = some r := fun hv => zbp (by decide) hv
theorem s_b_0 (X : Rn) (t1 t3 t4 : Value) (h : H) : sh X zg8 (K_b_0 X) (setL [p1, p3, p4] [t1, t3, t4]) h =
    k2 (some ((.slice none 0 0), h)) fun t5 h1 =>
    k2 (zd 0 t1 h1) fun t17 h2 =>
    k2 (zc t17 h2) fun t18 h3 =>
    k2 (some ((.int .i64 0), h3)) fun t19 h4 =>
    lp X [p1, p3, p4, p5, p18, p19] zg7 (kBlk 2 (kSeq X zgs [p1, p3, p4, p5] (ziJ X))) [t1, t3, t4, t5, t18, t19] h4 := by kernel_rfl
theorem l_b_0 (F : FuncId → Option zw) (t1 t3 t4 : Value) (h : H) {r : Out} : let X := rI F; sh X zg8 (K_b_0 X) (setL [p1, p3, p4] [t1, t3, t4]) h = some r → lp X [p1, p3, p4] zg8 (kBlk 0 (fnK [.tmp p2])) [t1, t3, t4] h = some r := fun hv => zbp (by decide) hv
theorem s_b (X : Rn) (t0 : Value) (h : H) : zt X 1 f_b [t0] h =
    k2 (some (zj h (zl t0))) fun t1 h1 =>
    k2 (some ((.map none), h1)) fun t2 h2 =>
    k2 (some (.map (some h2.next), h2.new (.map [] 0))) fun t14 h3 =>
    k2 (some (t14, h3)) fun t3 h4 =>
    k2 (some ((.int .i64 1), h4)) fun t4 h5 =>
    lp X [p1, p3, p4] zg8 (kBlk 0 (fnK [.tmp p2])) [t1, t3, t4] h5 := by kernel_rfl
theorem s_i_0 (X : Rn) (t3 t7 t10 : Value) (h : H) : sh X c_i_0 (K_i_0 X) (setL [p3, p7, p10] [t3, t7, t10]) h =
    k2 (zd 4 t3 h) fun t63 h1 =>
    k2 (zc t63 h1) fun t64 h2 =>
    k2 (zi 2 t7 h2) fun t65 h3 =>
    k2 (zc t10 h3) fun t66 h4 =>
    k2 (zdh (.leaves [0, 1]) h4 t65 t66 t64) fun _ h5 =>
    k2 (zc t10 h5) fun t67 h6 =>
    k2 (some (t67, h6)) fun t6 h7 =>
    some (.val (zf [t6]) h7) := by kernel_rfl
theorem s_i_1 (X : Rn) (l : Nat) (t3 t10 t11 t48 : Value) (h : H) : zT X zeT l [t48] (setL [p3, p10, p11] [t3, t10, t11]) h =
    k2 (some (t48, h)) fun t13 h1 =>
    zem l h1 fun h => sh X c_i_2 (K_i_2 X l) (setL [p3, p10, p11, p13, p48] [t3, t10, t11, t13, t48]) h := by kernel_rfl
theorem s_i_2 (X : Rn) (l : Nat) (t3 t10 t11 t13 t48 : Value) (h : H) : sh X c_i_2 (K_i_2 X l) (setL [p3, p10, p11, p13, p48] [t3, t10, t11, t13, t48]) h =
    k2 (rdF (fun b => zi 5 t3 b) 0 h [(0, h)]) fun t50 h1 =>
    k2 (zd 1 t11 h1) fun t51 h2 =>
    k2 (rdF (fun b => zc t51 b) 0 h2 [(0, h)]) fun t52 h3 =>
    k2 (some (t13, h3)) fun t53 h4 =>
    k2 (X.call (.func (.func n_i) #[] #[]) [t50, t52, t53] h4) fun t54 h5 =>
    k2 (rdF (fun b => zc t10 b) 0 h5 [(1, h5), (0, h)]) fun t49 h6 =>
    k2 (vBin .add .other t49 t54 h6) fun t55 h7 =>
    k2 (bltV h7 .min [t55, (.int .i64 3001)]) fun t56 h8 =>
    k2 (zo 1 t10 t56 h8) fun _ h9 =>
    fin l none h9 := by kernel_rfl
theorem s_i (X : Rn) (t0 t1 t2 : Value) (h : H) : zt X 3 f_i [t0, t1, t2] h =
    k2 (some (zj h (zl t0))) fun t3 h1 =>
    k2 (some ((.int .i64 0), h1)) fun t6 h2 =>
    k2 (some (t1, h2)) fun t14 h3 =>
    k2 (some (t2, h3)) fun t15 h4 =>
    k2 ((zq [(.int .i64 0), (.int .i64 0)] [(0, 1, t14), (1, 1, t15)]).map fun c => (Value.agg ⟨c⟩, h4)) fun t16 h5 =>
    k2 (some (zj h5 [(.int .i64 0), (.int .i64 0)])) fun t7 h6 =>
    k2 (zo 2 t7 t16 h6) fun _ h7 =>
    k2 (zd 4 t3 h7) fun t18 h8 =>
    k2 (zc t18 h8) fun t19 h9 =>
    k2 (zi 2 t7 h9) fun t20 h10 =>
    k2 (zbo (.leaves [0, 1]) (.int .i64 0) true t19 t20 h10) fun t21 h11 =>
    k2 (some (t21, h11)) fun t17 h12 =>
    k2 (zn 0 t17 h12) fun t22 h13 =>
    k2 (zn 1 t17 h13) fun t23 h14 =>
    k2 (some (t22, h14)) fun t8 h15 =>
    k2 (some (t23, h15)) fun t9 h16 =>
    k2 (some (t9, h16)) fun t24 h17 =>
    br t24
      (k2 (some (t8, h17)) fun t25 h18 =>
    k2 (some (t25, h18)) fun t6_19 h20 =>
    some (.val (zf [t6_19]) h20))
      (k2 (some (zj h17 [(.int .i64 0)])) fun t10 h21 =>
    k2 (zo 1 t10 (.int .i64 1) h21) fun _ h22 =>
    k2 (zd 0 t3 h22) fun t27 h23 =>
    k2 (rdF (fun b => zc t27 b) 0 h23 [(0, h22)]) fun t28 h24 =>
    k2 (zd 1 t3 h24) fun t29 h25 =>
    k2 (rdF (fun b => zi 3 t29 b) 0 h25 [(0, h22)]) fun t30 h26 =>
    k2 (some (t1, h26)) fun t31 h27 =>
    k2 (some (t2, h27)) fun t32 h28 =>
    k2 (zd 0 t3 h28) fun t33 h29 =>
    k2 (rdF (fun b => zc t33 b) 0 h29 [(0, h22)]) fun t34 h30 =>
    k2 (rdF (fun b => zi 2 t7 b) 0 h30 [(0, h22)]) fun t35 h31 =>
    k2 (rdF (fun b => zbo (.leaves [0, 1]) (.int .i64 0) false t34 t35 b) 0 h31 [(0, h22)]) fun t36 h32 =>
    k2 (vBin .sub .other t36 (.int .i64 1) h32) fun t37 h33 =>
    k2 (X.call (.func (.func n_g) #[] #[]) [t28, t30, t31, t32, t37] h33) fun t38 h34 =>
    k2 (some (t38, h34)) fun t26 h35 =>
    k2 (zn 0 t26 h35) fun t39 h36 =>
    k2 (some (zj h36 [(.int .i64 0), (.int .i64 0), (.int .i64 0)])) fun t11 h37 =>
    k2 (zo 3 t11 t39 h37) fun _ h38 =>
    k2 (zn 1 t26 h38) fun t40 h39 =>
    k2 (some (t40, h39)) fun t12 h40 =>
    k2 (some (t12, h40)) fun t41 h41 =>
    br t41
      (k2 (zo 1 t10 (.int .i64 2) h41) fun _ h42 =>
    k2 (zd 1 t3 h42) fun t42 h43 =>
    k2 (zi 3 t42 h43) fun t43 h44 =>
    k2 (some (t2, h44)) fun t44 h45 =>
    k2 (zd 2 t11 h45) fun t45 h46 =>
    k2 (zc t45 h46) fun t46 h47 =>
    k2 (X.call (.func (.func n_v) #[] #[]) [t43, t44, t46] h47) fun t47 h48 =>
    (isFn t47).bind fun fv => k2 (X.call fv [.func (.yield h48.next) #[] #[]] (h48.new (.loop .ready none (setL [p3, p10, p11] [t3, t10, t11]) zeT))) fun _ h49 =>
    rgP h48.next h49 (fun h50 => sh X c_i_0 (K_i_0 X) (setL [p3, p7, p10] [t3, t7, t10]) h50) (fun i h50 => bx i 0 (sh X c_i_0 (K_i_0 X) (setL [p3, p7, p10] [t3, t7, t10]) h50) (none)) (fun h50 => some (.val (zf [t6]) h50)))
      (k2 (zi 5 t3 h41) fun t57 h51 =>
    k2 (some (t2, h51)) fun t58 h52 =>
    k2 (some (t1, h52)) fun t59 h53 =>
    k2 (X.call (.func (.func n_i) #[] #[]) [t57, t58, t59] h53) fun t60 h54 =>
    k2 (vBin .add .other (.int .i64 1) t60 h54) fun t61 h55 =>
    k2 (bltV h55 .min [t61, (.int .i64 3001)]) fun t62 h56 =>
    k2 (zo 1 t10 t62 h56) fun _ h57 =>
    sh X c_i_0 (K_i_0 X) (setL [p3, p7, p10] [t3, t7, t10]) h57)) := by kernel_rfl
theorem s_f_0 (X : Rn) (t6 t7 t9 : Value) (h : H) : sh X c_f_0 (K_f_0 X) (setL [p6, p7, p9] [t6, t7, t9]) h =
    k2 (zd 2 t7 h) fun t56 h1 =>
    k2 (zc t56 h1) fun t57 h2 =>
    k2 (zi 3 t9 h2) fun t58 h3 =>
    k2 (zV 1 (zq (zu [(.int .i64 0), (.int .i64 0), (.slice none 0 0)] 1) [(0 * 3, 3, t58)]) h3) fun t59 h4 =>
    k2 ((zq [(.int .i64 0), (.int .i64 0), (.slice none 0 0)] [(0, 1, (.int .i64 4)), (1, 1, t57), (2, 1, t59)]).map fun c => (Value.agg ⟨c⟩, h4)) fun t60 h5 =>
    k2 (zo 3 t6 t60 h5) fun _ h6 =>
    (vRes (some 3) t6 h6).bind fun r0 => some (.val (zf [r0]) h6) := by kernel_rfl
theorem s_f_1 (X : Rn) (l : Nat) (t3 t7 t9 t43 : Value) (h : H) : zT X zdD l [t43] (setL [p3, p7, p9] [t3, t7, t9]) h =
    k2 (some (t43, h)) fun t10 h1 =>
    zem l h1 fun h => sh X c_f_2 (K_f_2 X l) (setL [p3, p7, p9, p10, p43] [t3, t7, t9, t10, t43]) h := by kernel_rfl
theorem s_f_2 (X : Rn) (l : Nat) (t3 t7 t9 t10 t43 : Value) (h : H) : sh X c_f_2 (K_f_2 X l) (setL [p3, p7, p9, p10, p43] [t3, t7, t9, t10, t43]) h =
    k2 (rdF (fun b => zi 5 t3 b) 0 h [(0, h)]) fun t46 h1 =>
    k2 (zd 1 t7 h1) fun t47 h2 =>
    k2 (rdF (fun b => zc t47 b) 0 h2 [(0, h)]) fun t48 h3 =>
    k2 (some (t10, h3)) fun t49 h4 =>
    k2 (X.call (.func (.func n_f) #[] #[]) [t46, t48, t49] h4) fun t50 h5 =>
    k2 (zd 2 t9 h5) fun t44 h6 =>
    k2 (rdF (fun b => zc t44 b) 0 h6 [(1, h5), (0, h)]) fun t45 h7 =>
    k2 (bltV h7 .len [t45]) fun t51 h8 =>
    k2 (zV 1 (zq (zu [(.int .i64 0), (.int .i64 0), (.slice none 0 0)] 1) [(0 * 3, 3, (.agg ⟨[(.int .i64 0), (.int .i64 0), (.slice none 0 0)]⟩))]) h8) fun t52 h9 =>
    k2 (bltV h9 (.append 3 40) [t45, t52]) fun t53 h10 =>
    k2 (zy 3 t53 t51 h10) fun t54 h11 =>
    k2 (zd 2 t9 h11) fun t55 h12 =>
    st2 (zi8 3 t54 t50 1 t55 t53 h12) fun h13 =>
    fin l none h13 := by kernel_rfl
theorem s_f (X : Rn) (t0 t1 t2 : Value) (h : H) : zt X 3 f_f [t0, t1, t2] h =
    k2 (some (zj h (zl t0))) fun t3 h1 =>
    k2 (some (zj h1 [(.int .i64 0), (.int .i64 0), (.slice none 0 0)])) fun t6 h2 =>
    k2 (zd 0 t3 h2) fun t12 h3 =>
    k2 (rdF (fun b => zc t12 b) 0 h3 [(0, h2)]) fun t13 h4 =>
    k2 (zd 1 t3 h4) fun t14 h5 =>
    k2 (rdF (fun b => zi 3 t14 b) 0 h5 [(0, h2)]) fun t15 h6 =>
    k2 (some (t1, h6)) fun t16 h7 =>
    k2 (some (t2, h7)) fun t17 h8 =>
    k2 (zd 0 t3 h8) fun t18 h9 =>
    k2 (rdF (fun b => zc t18 b) 0 h9 [(0, h2)]) fun t19 h10 =>
    k2 (some (t1, h10)) fun t20 h11 =>
    k2 (some (t2, h11)) fun t21 h12 =>
    k2 ((zq [(.int .i64 0), (.int .i64 0)] [(0, 1, t20), (1, 1, t21)]).map fun c => (Value.agg ⟨c⟩, h12)) fun t22 h13 =>
    k2 (rdF (fun b => zbo (.leaves [0, 1]) (.int .i64 0) false t19 t22 b) 0 h13 [(0, h2)]) fun t23 h14 =>
    k2 (vBin .sub .other t23 (.int .i64 1) h14) fun t24 h15 =>
    k2 (X.call (.func (.func n_g) #[] #[]) [t13, t15, t16, t17, t24] h15) fun t25 h16 =>
    k2 (some (t25, h16)) fun t11 h17 =>
    k2 (zn 0 t11 h17) fun t26 h18 =>
    k2 (some (zj h18 [(.int .i64 0), (.int .i64 0), (.int .i64 0)])) fun t7 h19 =>
    k2 (zo 3 t7 t26 h19) fun _ h20 =>
    k2 (zn 1 t11 h20) fun t27 h21 =>
    k2 (some (t27, h21)) fun t8 h22 =>
    k2 (some (t8, h22)) fun t28 h23 =>
    k2 (vUn .not t28 h23) fun t29 h24 =>
    br t29
      (k2 (zi 5 t3 h24) fun t30 h25 =>
    k2 (some (t2, h25)) fun t31 h26 =>
    k2 (some (t1, h26)) fun t32 h27 =>
    k2 (X.call (.func (.func n_f) #[] #[]) [t30, t31, t32] h27) fun t33 h28 =>
    k2 (zV 1 (zq (zu [(.int .i64 0), (.int .i64 0), (.slice none 0 0)] 1) [(0 * 3, 3, t33)]) h28) fun t34 h29 =>
    k2 ((zq [(.int .i64 0), (.int .i64 0), (.slice none 0 0)] [(0, 1, (.int .i64 2)), (2, 1, t34)]).map fun c => (Value.agg ⟨c⟩, h29)) fun t35 h30 =>
    k2 (zo 3 t6 t35 h30) fun _ h31 =>
    (vRes (some 3) t6 h31).bind fun r0 => some (.val (zf [r0]) h31))
      (k2 ((zq [(.int .i64 0), (.int .i64 0), (.slice none 0 0)] [(0, 1, (.int .i64 3))]).map fun c => (Value.agg ⟨c⟩, h24)) fun t36 h32 =>
    k2 (some (zj h32 [(.int .i64 0), (.int .i64 0), (.slice none 0 0)])) fun t9 h33 =>
    k2 (zo 3 t9 t36 h33) fun _ h34 =>
    k2 (zd 1 t3 h34) fun t37 h35 =>
    k2 (zi 3 t37 h35) fun t38 h36 =>
    k2 (some (t2, h36)) fun t39 h37 =>
    k2 (zd 2 t7 h37) fun t40 h38 =>
    k2 (zc t40 h38) fun t41 h39 =>
    k2 (X.call (.func (.func n_v) #[] #[]) [t38, t39, t41] h39) fun t42 h40 =>
    (isFn t42).bind fun fv => k2 (X.call fv [.func (.yield h40.next) #[] #[]] (h40.new (.loop .ready none (setL [p3, p7, p9] [t3, t7, t9]) zdD))) fun _ h41 =>
    rgP h40.next h41 (fun h42 => sh X c_f_0 (K_f_0 X) (setL [p6, p7, p9] [t6, t7, t9]) h42) (fun i h42 => bx i 0 (sh X c_f_0 (K_f_0 X) (setL [p6, p7, p9] [t6, t7, t9]) h42) (none)) (fun h42 => (vRes (some 3) t6 h42).bind fun r0 => some (.val (zf [r0]) h42))) := by kernel_rfl
theorem s_J (X : Rn) (t0 t1 : Value) (h : H) : zt X 2 f_J [t0, t1] h =
    k2 (some (zj h (zl t0))) fun t2 h1 =>
    k2 (some (zj h1 (zl t1))) fun t3 h2 =>
    k2 (some ((.bool false), h2)) fun t4 h3 =>
    k2 (zi 3 t2 h3) fun t5 h4 =>
    k2 (X.call (.func (.func n_m) #[] #[]) [t5] h4) fun t6 h5 =>
    k2 (vBin .eql .other t6 (.int .i64 0) h5) fun t7 h6 =>
    k2 (some (t7, h6)) fun t8 h7 =>
    k2 (gd t8 true h7 (zi 3 t3 h7)) fun t9 h8 =>
    k2 (gd t8 true h8 (X.call (.func (.func n_m) #[] #[]) [t9] h8)) fun t10 h9 =>
    k2 (gd t8 true h9 (vBin .eql .other t10 (.int .i64 0) h9)) fun t11 h10 =>
    k2 (zI t8 t11 (.bool false) h10) fun t12 h11 =>
    k2 (some (t12, h11)) fun t13 h12 =>
    k2 (gd t13 true h12 (zd 1 t2 h12)) fun t14 h13 =>
    k2 (gd t13 true h13 (zc t14 h13)) fun t15 h14 =>
    k2 (gd t13 true h14 (zd 1 t3 h14)) fun t16 h15 =>
    k2 (gd t13 true h15 (zc t16 h15)) fun t17 h16 =>
    k2 (gd t13 true h16 (vBin .eql .other t15 t17 h16)) fun t18 h17 =>
    k2 (zI t13 t18 (.bool false) h17) fun t19 h18 =>
    k2 (some (t19, h18)) fun t4 h19 =>
    some (.val (zf [t4]) h19) := by kernel_rfl
theorem s_k_0 (X : Rn) (t12 : Value) (h : H) : sh X c_k_0 (K_k_0 X) (setL [p12] [t12]) h =
    k2 (zo 1 t12 (.bool true) h) fun _ h1 =>
    (vRes none t12 h1).bind fun r0 => some (.val (zf [r0]) h1) := by kernel_rfl
theorem s_k_1 (X : Rn) (l : Nat) (t7 t9 t10 t11 t12 t19 : Value) (h : H) : zT X zfi l [t19] (setL [p7, p9, p10, p11, p12] [t7, t9, t10, t11, t12]) h =
    k2 (some (zj h [(.int .i64 0), (.int .i64 0), (.int .i64 0)])) fun t13 h1 =>
    k2 (zo 3 t13 t19 h1) fun _ h2 =>
    zem l h2 fun h => sh X c_k_2 (K_k_2 X l) (setL [p7, p9, p10, p11, p12, p13, p19] [t7, t9, t10, t11, t12, t13, t19]) h := by kernel_rfl
theorem s_k_3 (X : Rn) (l : Nat) (t12 : Value) (h : H) : sh X c_k_3 (K_k_3 X l) (setL [p12] [t12]) h =
    k2 (zo 1 t12 (.bool false) h) fun _ h1 =>
    fin l (some .ret) h1 := by kernel_rfl
theorem s_k_4 (X : Rn) (l : Nat) (t10 t11 t13 t25 : Value) (h : H) : zT X zfh l [t25] (setL [p10, p11, p13] [t10, t11, t13]) h =
    k2 (some (t25, h)) fun t14 h1 =>
    zem l h1 fun h => sh X c_k_5 (K_k_5 X l) (setL [p10, p11, p13, p14, p25] [t10, t11, t13, t14, t25]) h := by kernel_rfl
theorem s_k_6 (X : Rn) (l : Nat) (t10 t15 : Value) (h : H) : sh X c_k_6 (K_k_6 X l) (setL [p10, p15] [t10, t15]) h =
    k2 (zc t10 h) fun t35 h1 =>
    k2 (zi 2 t15 h1) fun t36 h2 =>
    k2 (zbo (.leaves [0, 1]) (.bool false) false t35 t36 h2) fun t37 h3 =>
    br t37
      (fin l (some (.exit 1)) h3)
      (fin l none h3) := by kernel_rfl
theorem s_k_5 (X : Rn) (l : Nat) (t10 t11 t13 t14 t25 : Value) (h : H) : sh X c_k_5 (K_k_5 X l) (setL [p10, p11, p13, p14, p25] [t10, t11, t13, t14, t25]) h =
    k2 (zd 1 t13 h) fun t26 h1 =>
    k2 (zc t26 h1) fun t27 h2 =>
    k2 (some (t14, h2)) fun t28 h3 =>
    k2 ((zq [(.int .i64 0), (.int .i64 0)] [(0, 1, t27), (1, 1, t28)]).map fun c => (Value.agg ⟨c⟩, h3)) fun t29 h4 =>
    k2 (some (zj h4 [(.int .i64 0), (.int .i64 0)])) fun t15 h5 =>
    k2 (zo 2 t15 t29 h5) fun _ h6 =>
    k2 (zc t11 h6) fun t30 h7 =>
    br t30
      (k2 (some (t14, h7)) fun t31 h8 =>
    k2 (zd 1 t13 h8) fun t32 h9 =>
    k2 (zc t32 h9) fun t33 h10 =>
    k2 ((zq [(.int .i64 0), (.int .i64 0)] [(0, 1, t31), (1, 1, t33)]).map fun c => (Value.agg ⟨c⟩, h10)) fun t34 h11 =>
    k2 (zo 2 t15 t34 h11) fun _ h12 =>
    sh X c_k_6 (K_k_6 X l) (setL [p10, p15] [t10, t15]) h12)
      (sh X c_k_6 (K_k_6 X l) (setL [p10, p15] [t10, t15]) h7) := by kernel_rfl
theorem s_k_2 (X : Rn) (l : Nat) (t7 t9 t10 t11 t12 t13 t19 : Value) (h : H) : sh X c_k_2 (K_k_2 X l) (setL [p7, p9, p10, p11, p12, p13, p19] [t7, t9, t10, t11, t12, t13, t19]) h =
    k2 (zi 3 t7 h) fun t20 h1 =>
    k2 (zc t9 h1) fun t21 h2 =>
    k2 (zd 2 t13 h2) fun t22 h3 =>
    k2 (zc t22 h3) fun t23 h4 =>
    k2 (X.call (.func (.func n_v) #[] #[]) [t20, t21, t23] h4) fun t24 h5 =>
    (isFn t24).bind fun fv => k2 (X.call fv [.func (.yield h5.next) #[] #[]] (h5.new (.loop .ready none (setL [p10, p11, p13] [t10, t11, t13]) zfh))) fun _ h6 =>
    rgP h5.next h6 (fun h7 => sh X c_k_3 (K_k_3 X l) (setL [p12] [t12]) h7) (fun i h7 => bx i 2 (sh X c_k_3 (K_k_3 X l) (setL [p12] [t12]) h7) (bx i 1 (fin l none h7) (fin l (some (.exit i)) h7))) (fun h7 => fin l (some .ret) h7) := by kernel_rfl
theorem s_k (X : Rn) (t0 t1 t2 t3 t4 t5 : Value) (h : H) : zt X 6 f_k [t0, t1, t2, t3, t4, t5] h =
    k2 (some (zj h (zl t0))) fun t6 h1 =>
    k2 (some (zj h1 (zl t1))) fun t7 h2 =>
    k2 (some (zj h2 (zl t3))) fun t9 h3 =>
    k2 (some (zj h3 (zl t4))) fun t10 h4 =>
    k2 (some (zj h4 (zl t5))) fun t11 h5 =>
    k2 (some (zj h5 [(.bool false)])) fun t12 h6 =>
    k2 (zi 3 t6 h6) fun t16 h7 =>
    k2 (some (t2, h7)) fun t17 h8 =>
    k2 (X.call (.func (.func n_y) #[] #[]) [t16, t17] h8) fun t18 h9 =>
    (isFn t18).bind fun fv => k2 (X.call fv [.func (.yield h9.next) #[] #[]] (h9.new (.loop .ready none (setL [p7, p9, p10, p11, p12] [t7, t9, t10, t11, t12]) zfi))) fun _ h10 =>
    rgP h9.next h10 (fun h11 => sh X c_k_0 (K_k_0 X) (setL [p12] [t12]) h11) (fun i h11 => bx i 0 (sh X c_k_0 (K_k_0 X) (setL [p12] [t12]) h11) (none)) (fun h11 => (vRes none t12 h11).bind fun r0 => some (.val (zf [r0]) h11)) := by kernel_rfl
theorem s_o_2 (X : Rn) (h : H) : sh X c_o_2 (K_o_2 X) (setL [] []) h =
    k2 (some ((.bool true), h)) fun t6 h1 =>
    some (.val (zf [t6]) h1) := by kernel_rfl
theorem s_o_3 (X : Rn) (t2 t3 t59 t60 t61 : Value) (h : H) : sh X c_o_3 (K_o_3 X) (setL [p2, p3, p59, p60, p61] [t2, t3, t59, t60, t61]) h =
    k2 (vBin .lss .other t61 t60 h) fun t62 h1 =>
    br t62
      (k2 (zy 3 t59 t61 h1) fun t63 h2 =>
    k2 (zi 3 t63 h2) fun t64 h3 =>
    k2 (some (zj h3 [(.int .i64 0), (.int .i64 0), (.slice none 0 0)])) fun t9 h4 =>
    k2 (zo 3 t9 t64 h4) fun _ h5 =>
    k2 (zi 3 t3 h5) fun t65 h6 =>
    k2 (zi 3 t9 h6) fun t66 h7 =>
    k2 (some (t2, h7)) fun t67 h8 =>
    k2 (X.call (.func (.func n_o) #[] #[]) [t65, t66, t67] h8) fun t68 h9 =>
    k2 (vUn .not t68 h9) fun t69 h10 =>
    br t69
      (k2 (some ((.bool false), h10)) fun t6 h11 =>
    some (.val (zf [t6]) h11))
      (k2 (vBin .add .other t61 (.int .i64 1) h10) fun t70 h12 =>
    k2 (some (t70, h12)) fun t61_13 h14 =>
    lp X [p2, p3, p59, p60, p61] c_o_3 (kBlk 1 (kSeq X c_o_2 [] (K_o_2 X))) [t2, t3, t59, t60, t61_13] h14))
      (sh X c_o_2 (K_o_2 X) (setL [] []) h1) := by kernel_rfl
theorem l_o_3 (F : FuncId → Option zw) (t2 t3 t59 t60 t61 : Value) (h : H) {r : Out} : let X := rI F; sh X c_o_3 (K_o_3 X) (setL [p2, p3, p59, p60, p61] [t2, t3, t59, t60, t61]) h = some r → lp X [p2, p3, p59, p60, p61] c_o_3 (kBlk 1 (kSeq X c_o_2 [] (K_o_2 X))) [t2, t3, t59, t60, t61] h = some r := fun hv => zbp (by decide) hv
theorem zfE (X : Rn) (t2 t3 t4 t7 : Value) (h : H) : sh X c_o_0 (K_o_0 X) (setL [p2, p3, p4, p7] [t2, t3, t4, t7]) h =
    k2 (zd 2 t4 h) fun t31 h1 =>
    k2 (zc t31 h1) fun t32 h2 =>
    k2 (bltV h2 .len [t32]) fun t33 h3 =>
    k2 (some (t7, h3)) fun t34 h4 =>
    k2 (vBin .neq .other t33 t34 h4) fun t35 h5 =>
    k2 (some (t35, h5)) fun t36 h6 =>
    k2 (gd t36 false h6 (zd 1 t4 h6)) fun t37 h7 =>
    k2 (gd t36 false h7 (zc t37 h7)) fun t38 h8 =>
    k2 (gd t36 false h8 (vBin .neq .other t38 (.int .i64 0) h8)) fun t39 h9 =>
    k2 (gd t36 false h9 (some (t39, h9))) fun t40 h10 =>
    k2 (gd t40 true h10 (zd 0 t4 h10)) fun t41 h11 =>
    k2 (gd t40 true h11 (zc t41 h11)) fun t42 h12 =>
    k2 (gd t40 true h12 (vBin .neq .other t42 (.int .i64 4) h12)) fun t43 h13 =>
    k2 (gd t36 false h13 (zI t40 t43 (.bool false) h13)) fun t44 h14 =>
    k2 (zI t36 (.bool true) t44 h14) fun t45 h15 =>
    k2 (some (t45, h15)) fun t46 h16 =>
    k2 (gd t46 false h16 (zd 1 t4 h16)) fun t47 h17 =>
    k2 (gd t46 false h17 (zc t47 h17)) fun t48 h18 =>
    k2 (gd t46 false h18 (vBin .lss .other t48 (.int .i64 0) h18)) fun t49 h19 =>
    k2 (zI t46 (.bool true) t49 h19) fun t50 h20 =>
    k2 (some (t50, h20)) fun t51 h21 =>
    k2 (gd t51 false h21 (zd 1 t4 h21)) fun t52 h22 =>
    k2 (gd t51 false h22 (zc t52 h22)) fun t53 h23 =>
    k2 (gd t51 false h23 (zd 1 t3 h23)) fun t54 h24 =>
    k2 (gd t51 false h24 (zc t54 h24)) fun t55 h25 =>
    k2 (gd t51 false h25 (vBin .geq .other t53 t55 h25)) fun t56 h26 =>
    k2 (zI t51 (.bool true) t56 h26) fun t57 h27 =>
    br t57
      (k2 (some ((.bool false), h27)) fun t6 h28 =>
    some (.val (zf [t6]) h28))
      (k2 (zd 2 t4 h27) fun t58 h29 =>
    k2 (zc t58 h29) fun t59 h30 =>
    k2 (bltV h30 .len [t59]) fun t60 h31 =>
    k2 (some ((.int .i64 0), h31)) fun t61 h32 =>
    lp X [p2, p3, p59, p60, p61] c_o_3 (kBlk 1 (kSeq X c_o_2 [] (K_o_2 X))) [t2, t3, t59, t60, t61] h32) := by kernel_rfl
theorem zfD (X : Rn) (t2 t3 t4 t7 t23 t26 : Value) (h : H) : sh X c_o_1 (K_o_1 X) (setL [p2, p3, p4, p7, p23, p26] [t2, t3, t4, t7, t23, t26]) h =
    br t26
      (k2 (some ((.int .i64 1), h)) fun t7_1 h2 =>
    sh X c_o_0 (K_o_0 X) (setL [p2, p3, p4, p7] [t2, t3, t4, t7_1]) h2)
      (k2 (vBin .eql .other t23 (.int .i64 3) h) fun t30 h3 =>
    k2 (some (t30, h3)) fun t29 h4 =>
    br t29
      (sh X c_o_0 (K_o_0 X) (setL [p2, p3, p4, p7] [t2, t3, t4, t7]) h4)
      (k2 (some ((.bool false), h4)) fun t6 h5 =>
    some (.val (zf [t6]) h5))) := by kernel_rfl
theorem s_o (X : Rn) (t0 t1 t2 : Value) (h : H) : zt X 3 f_o [t0, t1, t2] h =
    k2 (some (zj h (zl t0))) fun t3 h1 =>
    k2 (some (zj h1 (zl t1))) fun t4 h2 =>
    k2 (some ((.bool false), h2)) fun t6 h3 =>
    k2 (some (t2, h3)) fun t10 h4 =>
    k2 (vNil t10 h4) fun t11 h5 =>
    k2 (zc t11 h5) fun t12 h6 =>
    k2 (vBin .sub .other t12 (.int .i64 1) h6) fun t13 h7 =>
    k2 (vNil t10 h7) fun t14 h8 =>
    k2 (zo 1 t14 t13 h8) fun _ h9 =>
    k2 (some (t2, h9)) fun t15 h10 =>
    k2 (vNil t15 h10) fun t16 h11 =>
    k2 (zc t16 h11) fun t17 h12 =>
    k2 (vBin .lss .other t17 (.int .i64 0) h12) fun t18 h13 =>
    br t18
      (k2 (some ((.bool false), h13)) fun t6 h14 =>
    some (.val (zf [t6]) h14))
      (k2 (zd 2 t4 h13) fun t19 h15 =>
    k2 (zc t19 h15) fun t20 h16 =>
    k2 (bltV h16 .len [t20]) fun t21 h17 =>
    k2 (some (t21, h17)) fun t7 h18 =>
    k2 (zd 0 t4 h18) fun t22 h19 =>
    k2 (zc t22 h19) fun t23 h20 =>
    k2 (vBin .eql .other t23 (.int .i64 1) h20) fun t25 h21 =>
    k2 (some (t25, h21)) fun t24 h22 =>
    br t24
      (k2 (some ((.int .i64 0), h22)) fun t7_23 h24 =>
    sh X c_o_0 (K_o_0 X) (setL [p2, p3, p4, p7] [t2, t3, t4, t7_23]) h24)
      (k2 (vBin .eql .other t23 (.int .i64 2) h22) fun t27 h25 =>
    k2 (some (t27, h25)) fun t26 h26 =>
    br t26
      (sh X c_o_1 (K_o_1 X) (setL [p2, p3, p4, p7, p23, p26] [t2, t3, t4, t7, t23, t26]) h26)
      (k2 (vBin .eql .other t23 (.int .i64 4) h26) fun t28 h27 =>
    k2 (some (t28, h27)) fun t26_28 h29 =>
    sh X c_o_1 (K_o_1 X) (setL [p2, p3, p4, p7, p23, p26] [t2, t3, t4, t7, t23, t26_28]) h29))) := by kernel_rfl
theorem s_h_0 (X : Rn) (t5 : Value) (h : H) : sh X zfl (zf8 X) (setL [p5] [t5]) h =
    k2 (some (t5, h)) fun t117 h1 =>
    k2 (some (t117, h1)) fun t4 h2 =>
    some (.val (zf [t4]) h2) := by kernel_rfl
theorem s_h_1 (X : Rn) (t5 t65 t66 t67 : Value) (h : H) : sh X c_h_1 (K_h_1 X) (setL [p5, p65, p66, p67] [t5, t65, t66, t67]) h =
    k2 (vBin .lss .other t67 t66 h) fun t68 h1 =>
    br t68
      (k2 (some (t67, h1)) fun t69 h2 =>
    k2 (zy 1 t65 t67 h2) fun t70 h3 =>
    k2 (zc t70 h3) fun t71 h4 =>
    k2 (some (t69, h4)) fun t6 h5 =>
    k2 (some (t71, h5)) fun t7 h6 =>
    k2 (some (t5, h6)) fun t72 h7 =>
    k2 (some (t6, h7)) fun t73 h8 =>
    k2 (some (t7, h8)) fun t74 h9 =>
    k2 (vUn .not t74 h9) fun t75 h10 =>
    k2 (zy 1 t72 t73 h10) fun t76 h11 =>
    k2 (zo 1 t76 t75 h11) fun _ h12 =>
    k2 (vBin .add .other t67 (.int .i64 1) h12) fun t77 h13 =>
    k2 (some (t77, h13)) fun t67_14 h15 =>
    lp X [p5, p65, p66, p67] c_h_1 (kBlk 7 (kBlk 0 (kSeq X zfl [p5] (zf8 X)))) [t5, t65, t66, t67_14] h15)
      (sh X zfl (zf8 X) (setL [p5] [t5]) h1) := by kernel_rfl
theorem l_h_1 (F : FuncId → Option zw) (t5 t65 t66 t67 : Value) (h : H) {r : Out} : let X := rI F; sh X c_h_1 (K_h_1 X) (setL [p5, p65, p66, p67] [t5, t65, t66, t67]) h = some r → lp X [p5, p65, p66, p67] c_h_1 (kBlk 7 (kBlk 0 (kSeq X zfl [p5] (zf8 X)))) [t5, t65, t66, t67] h = some r := fun hv => zbp (by decide) hv
theorem s_h_2 (X : Rn) (t3 t5 t8 t87 t88 t89 : Value) (h : H) : sh X c_h_2 (K_h_2 X) (setL [p3, p5, p8, p87, p88, p89] [t3, t5, t8, t87, t88, t89]) h =
    k2 (vBin .lss .other t89 t88 h) fun t90 h1 =>
    br t90
      (k2 (zy 3 t87 t89 h1) fun t91 h2 =>
    k2 (zi 3 t91 h2) fun t92 h3 =>
    k2 (some (zj h3 [(.int .i64 0), (.int .i64 0), (.int .i64 0)])) fun t10 h4 =>
    k2 (zo 3 t10 t92 h4) fun _ h5 =>
    k2 (some (t5, h5)) fun t93 h6 =>
    k2 (zd 0 t10 h6) fun t94 h7 =>
    k2 (rdF (fun b => zc t94 b) 0 h7 [(0, h5)]) fun t95 h8 =>
    k2 (some (t5, h8)) fun t96 h9 =>
    k2 (zd 0 t10 h9) fun t97 h10 =>
    k2 (rdF (fun b => zc t97 b) 0 h10 [(0, h5)]) fun t98 h11 =>
    k2 (zy 1 t96 t98 h11) fun t99 h12 =>
    k2 (rdF (fun b => zc t99 b) 0 h12 [(0, h5)]) fun t100 h13 =>
    k2 (some (t100, h13)) fun t101 h14 =>
    k2 (gd t101 false h14 (zd 2 t10 h14)) fun t102 h15 =>
    k2 (gd t101 false h15 (rdF (fun b => zc t102 b) 0 h15 [(0, h5)])) fun t103 h16 =>
    k2 (gd t101 false h16 (zd 1 t3 h16)) fun t104 h17 =>
    k2 (gd t101 false h17 (rdF (fun b => zc t104 b) 0 h17 [(0, h5)])) fun t105 h18 =>
    k2 (gd t101 false h18 (vBin .eql .other t103 t105 h18)) fun t106 h19 =>
    k2 (gd t101 false h19 (some (t106, h19))) fun t107 h20 =>
    k2 (gd t107 true h20 (some (t8, h20))) fun t108 h21 =>
    k2 (gd t107 true h21 (zd 1 t10 h21)) fun t109 h22 =>
    k2 (gd t107 true h22 (rdF (fun b => zc t109 b) 0 h22 [(0, h5)])) fun t110 h23 =>
    k2 (gd t107 true h23 (zy 1 t108 t110 h23)) fun t111 h24 =>
    k2 (gd t107 true h24 (rdF (fun b => zc t111 b) 0 h24 [(0, h5)])) fun t112 h25 =>
    k2 (gd t101 false h25 (zI t107 t112 (.bool false) h25)) fun t113 h26 =>
    k2 (zI t101 (.bool true) t113 h26) fun t114 h27 =>
    k2 (zy 1 t93 t95 h27) fun t115 h28 =>
    k2 (zo 1 t115 t114 h28) fun _ h29 =>
    k2 (vBin .add .other t89 (.int .i64 1) h29) fun t116 h30 =>
    k2 (some (t116, h30)) fun t89_31 h32 =>
    lp X [p3, p5, p8, p87, p88, p89] c_h_2 (kBlk 9 (kBlk 0 (kSeq X zfl [p5] (zf8 X)))) [t3, t5, t8, t87, t88, t89_31] h32)
      (sh X zfl (zf8 X) (setL [p5] [t5]) h1) := by kernel_rfl
theorem l_h_2 (F : FuncId → Option zw) (t3 t5 t8 t87 t88 t89 : Value) (h : H) {r : Out} : let X := rI F; sh X c_h_2 (K_h_2 X) (setL [p3, p5, p8, p87, p88, p89] [t3, t5, t8, t87, t88, t89]) h = some r → lp X [p3, p5, p8, p87, p88, p89] c_h_2 (kBlk 9 (kBlk 0 (kSeq X zfl [p5] (zf8 X)))) [t3, t5, t8, t87, t88, t89] h = some r := fun hv => zbp (by decide) hv
theorem s_h_6 (X : Rn) (t2 t5 t31 t32 t33 : Value) (h : H) : sh X c_h_6 (K_h_6 X) (setL [p2, p5, p31, p32, p33] [t2, t5, t31, t32, t33]) h =
    k2 (vBin .add .other t33 (.int .i64 1) h) fun t57 h1 =>
    k2 (some (t57, h1)) fun t33_2 h3 =>
    lp X [p2, p5, p31, p32, p33] c_h_5 (kBlk 3 (ziI X)) [t2, t5, t31, t32, t33_2] h3 := by kernel_rfl
theorem s_h_7 (X : Rn) (t2 t5 t31 t32 t33 t39 t40 t41 : Value) (h : H) : sh X c_h_7 (K_h_7 X) (setL [p2, p5, p31, p32, p33, p39, p40, p41] [t2, t5, t31, t32, t33, t39, t40, t41]) h =
    k2 (vBin .lss .other t41 t40 h) fun t42 h1 =>
    br t42
      (k2 (some (t41, h1)) fun t43 h2 =>
    k2 (zy 1 t39 t41 h2) fun t44 h3 =>
    k2 (zc t44 h3) fun t45 h4 =>
    k2 (some (t43, h4)) fun t14 h5 =>
    k2 (some (t45, h5)) fun t15 h6 =>
    k2 (some (t5, h6)) fun t46 h7 =>
    k2 (some (t14, h7)) fun t47 h8 =>
    k2 (some (t5, h8)) fun t48 h9 =>
    k2 (some (t14, h9)) fun t49 h10 =>
    k2 (zy 1 t48 t49 h10) fun t50 h11 =>
    k2 (zc t50 h11) fun t51 h12 =>
    k2 (some (t51, h12)) fun t52 h13 =>
    k2 (gd t52 true h13 (some (t15, h13))) fun t53 h14 =>
    k2 (zI t52 t53 (.bool false) h14) fun t54 h15 =>
    k2 (zy 1 t46 t47 h15) fun t55 h16 =>
    k2 (zo 1 t55 t54 h16) fun _ h17 =>
    k2 (vBin .add .other t41 (.int .i64 1) h17) fun t56 h18 =>
    k2 (some (t56, h18)) fun t41_19 h20 =>
    lp X [p2, p5, p31, p32, p33, p39, p40, p41] c_h_7 (kBlk 5 (kBlk 4 (kSeq X c_h_6 [p2, p5, p31, p32, p33] (K_h_6 X)))) [t2, t5, t31, t32, t33, t39, t40, t41_19] h20)
      (sh X c_h_6 (K_h_6 X) (setL [p2, p5, p31, p32, p33] [t2, t5, t31, t32, t33]) h1) := by kernel_rfl
theorem l_h_7 (F : FuncId → Option zw) (t2 t5 t31 t32 t33 t39 t40 t41 : Value) (h : H) {r : Out} : let X := rI F; sh X c_h_7 (K_h_7 X) (setL [p2, p5, p31, p32, p33, p39, p40, p41] [t2, t5, t31, t32, t33, t39, t40, t41]) h = some r → lp X [p2, p5, p31, p32, p33, p39, p40, p41] c_h_7 (kBlk 5 (kBlk 4 (kSeq X c_h_6 [p2, p5, p31, p32, p33] (K_h_6 X)))) [t2, t5, t31, t32, t33, t39, t40, t41] h = some r := fun hv => zbp (by decide) hv
theorem s_h_5 (X : Rn) (t2 t5 t31 t32 t33 : Value) (h : H) : sh X c_h_5 (K_h_5 X) (setL [p2, p5, p31, p32, p33] [t2, t5, t31, t32, t33]) h =
    k2 (vBin .lss .other t33 t32 h) fun t34 h1 =>
    br t34
      (k2 (zy 3 t31 t33 h1) fun t35 h2 =>
    k2 (zi 3 t35 h2) fun t36 h3 =>
    k2 (some (zj h3 [(.int .i64 0), (.int .i64 0), (.slice none 0 0)])) fun t13 h4 =>
    k2 (zo 3 t13 t36 h4) fun _ h5 =>
    k2 (zi 3 t2 h5) fun t37 h6 =>
    k2 (zi 3 t13 h6) fun t38 h7 =>
    k2 (X.call (.func (.func n_h) #[] #[]) [t37, t38] h7) fun t39 h8 =>
    k2 (bltV h8 .len [t39]) fun t40 h9 =>
    k2 (some ((.int .i64 0), h9)) fun t41 h10 =>
    lp X [p2, p5, p31, p32, p33, p39, p40, p41] c_h_7 (kBlk 5 (kBlk 4 (kSeq X c_h_6 [p2, p5, p31, p32, p33] (K_h_6 X)))) [t2, t5, t31, t32, t33, t39, t40, t41] h10)
      (sh X zfl (zf8 X) (setL [p5] [t5]) h1) := by kernel_rfl
theorem l_h_5 (F : FuncId → Option zw) (t2 t5 t31 t32 t33 : Value) (h : H) {r : Out} : let X := rI F; sh X c_h_5 (K_h_5 X) (setL [p2, p5, p31, p32, p33] [t2, t5, t31, t32, t33]) h = some r → lp X [p2, p5, p31, p32, p33] c_h_5 (kBlk 3 (ziI X)) [t2, t5, t31, t32, t33] h = some r := fun hv => zbp (by decide) hv
theorem s_h_3 (X : Rn) (t2 t3 t5 : Value) (h : H) : sh X c_h_3 (ziI X) (setL [p2, p3, p5] [t2, t3, t5]) h =
    k2 (zd 2 t3 h) fun t30 h1 =>
    k2 (zc t30 h1) fun t31 h2 =>
    k2 (bltV h2 .len [t31]) fun t32 h3 =>
    k2 (some ((.int .i64 0), h3)) fun t33 h4 =>
    lp X [p2, p5, p31, p32, p33] c_h_5 (kBlk 3 (ziI X)) [t2, t5, t31, t32, t33] h4 := by kernel_rfl
theorem s_h_4 (X : Rn) (t2 t3 t5 t22 t23 : Value) (h : H) : sh X c_h_4 (K_h_4 X) (setL [p2, p3, p5, p22, p23] [t2, t3, t5, t22, t23]) h =
    k2 (vBin .lss .other t23 t22 h) fun t24 h1 =>
    br t24
      (k2 (some (t23, h1)) fun t25 h2 =>
    k2 (some (t25, h2)) fun t11 h3 =>
    k2 (some (t5, h3)) fun t26 h4 =>
    k2 (some (t11, h4)) fun t27 h5 =>
    k2 (zy 1 t26 t27 h5) fun t28 h6 =>
    k2 (zo 1 t28 (.bool true) h6) fun _ h7 =>
    k2 (vBin .add .other t23 (.int .i64 1) h7) fun t29 h8 =>
    k2 (some (t29, h8)) fun t23_9 h10 =>
    lp X [p2, p3, p5, p22, p23] c_h_4 (kBlk 1 (kSeq X c_h_3 [p2, p3, p5] (ziI X))) [t2, t3, t5, t22, t23_9] h10)
      (sh X c_h_3 (ziI X) (setL [p2, p3, p5] [t2, t3, t5]) h1) := by kernel_rfl
theorem l_h_4 (F : FuncId → Option zw) (t2 t3 t5 t22 t23 : Value) (h : H) {r : Out} : let X := rI F; sh X c_h_4 (K_h_4 X) (setL [p2, p3, p5, p22, p23] [t2, t3, t5, t22, t23]) h = some r → lp X [p2, p3, p5, p22, p23] c_h_4 (kBlk 1 (kSeq X c_h_3 [p2, p3, p5] (ziI X))) [t2, t3, t5, t22, t23] h = some r := fun hv => zbp (by decide) hv
theorem s_h (X : Rn) (t0 t1 : Value) (h : H) : zt X 2 f_h [t0, t1] h =
    k2 (some (zj h (zl t0))) fun t2 h1 =>
    k2 (some (zj h1 (zl t1))) fun t3 h2 =>
    k2 (some ((.slice none 0 0), h2)) fun t4 h3 =>
    k2 (zd 0 t2 h3) fun t16 h4 =>
    k2 (zc t16 h4) fun t17 h5 =>
    k2 (zbx 1 [(.bool false)] h5 t17 t17) fun t18 h6 =>
    k2 (some (t18, h6)) fun t5 h7 =>
    k2 (zd 0 t3 h7) fun t19 h8 =>
    k2 (zc t19 h8) fun t20 h9 =>
    k2 (vBin .eql .other t20 (.int .i64 2) h9) fun t59 h10 =>
    k2 (some (t59, h10)) fun t58 h11 =>
    br t58
      (k2 (rdF (fun b => zi 3 t2 b) 0 h11 [(0, h11)]) fun t60 h12 =>
    k2 (zd 2 t3 h12) fun t61 h13 =>
    k2 (rdF (fun b => zc t61 b) 0 h13 [(0, h11)]) fun t62 h14 =>
    k2 (zy 3 t62 (.int .i64 0) h14) fun t63 h15 =>
    k2 (rdF (fun b => zi 3 t63 b) 0 h15 [(0, h11)]) fun t64 h16 =>
    k2 (X.call (.func (.func n_h) #[] #[]) [t60, t64] h16) fun t65 h17 =>
    k2 (bltV h17 .len [t65]) fun t66 h18 =>
    k2 (some ((.int .i64 0), h18)) fun t67 h19 =>
    lp X [p5, p65, p66, p67] c_h_1 (kBlk 7 (kBlk 0 (kSeq X zfl [p5] (zf8 X)))) [t5, t65, t66, t67] h19)
      (k2 (vBin .eql .other t20 (.int .i64 4) h11) fun t79 h20 =>
    k2 (some (t79, h20)) fun t78 h21 =>
    br t78
      (k2 (rdF (fun b => zi 3 t2 b) 0 h21 [(0, h21)]) fun t80 h22 =>
    k2 (zd 2 t3 h22) fun t81 h23 =>
    k2 (rdF (fun b => zc t81 b) 0 h23 [(0, h21)]) fun t82 h24 =>
    k2 (zy 3 t82 (.int .i64 0) h24) fun t83 h25 =>
    k2 (rdF (fun b => zi 3 t83 b) 0 h25 [(0, h21)]) fun t84 h26 =>
    k2 (X.call (.func (.func n_h) #[] #[]) [t80, t84] h26) fun t85 h27 =>
    k2 (some (t85, h27)) fun t8 h28 =>
    k2 (zd 2 t2 h28) fun t86 h29 =>
    k2 (zc t86 h29) fun t87 h30 =>
    k2 (bltV h30 .len [t87]) fun t88 h31 =>
    k2 (some ((.int .i64 0), h31)) fun t89 h32 =>
    lp X [p3, p5, p8, p87, p88, p89] c_h_2 (kBlk 9 (kBlk 0 (kSeq X zfl [p5] (zf8 X)))) [t3, t5, t8, t87, t88, t89] h32)
      (k2 (some (t5, h21)) fun t21 h33 =>
    k2 (bltV h33 .len [t21]) fun t22 h34 =>
    k2 (some ((.int .i64 0), h34)) fun t23 h35 =>
    lp X [p2, p3, p5, p22, p23] c_h_4 (kBlk 1 (kSeq X c_h_3 [p2, p3, p5] (ziI X))) [t2, t3, t5, t22, t23] h35)) := by kernel_rfl
theorem s_d_0 (X : Rn) (t4 : Value) (h : H) : sh X zij (K_d_0 X) (setL [p4] [t4]) h =
    k2 (some (t4, h)) fun t50 h1 =>
    k2 (some (t50, h1)) fun t2 h2 =>
    some (.val (zf [t2]) h2) := by kernel_rfl
theorem s_d_2 (X : Rn) (t3 t4 t5 t14 t15 : Value) (h : H) : sh X ziY (K_d_2 X) (setL [p3, p4, p5, p14, p15] [t3, t4, t5, t14, t15]) h =
    k2 (vBin .add .other t15 (.int .i64 1) h) fun t49 h1 =>
    k2 (some (t49, h1)) fun t15_2 h3 =>
    lp X [p3, p4, p5, p14, p15] zg3 (kBlk 0 (kSeq X zij [p4] (K_d_0 X))) [t3, t4, t5, t14, t15_2] h3 := by kernel_rfl
theorem s_d_3 (X : Rn) (t3 t4 t5 t6 t14 t15 : Value) (h : H) : sh X zg2 (K_d_3 X) (setL [p3, p4, p5, p6, p14, p15] [t3, t4, t5, t6, t14, t15]) h =
    k2 (some (t4, h)) fun t40 h1 =>
    k2 (some (t5, h1)) fun t41 h2 =>
    k2 (bltV h2 .len [t41]) fun t42 h3 =>
    k2 (zV 1 (zq (zu [(.int .i64 0)] 1) [(0 * 1, 1, t42)]) h3) fun t43 h4 =>
    k2 (bltV h4 (.append 1 8) [t40, t43]) fun t44 h5 =>
    k2 (some (t44, h5)) fun t4_6 h7 =>
    k2 (some (t5, h7)) fun t45 h8 =>
    k2 (some (t6, h8)) fun t46 h9 =>
    k2 (zV 1 (zq (zu [(.int .i64 0)] 1) [(0 * 1, 1, t46)]) h9) fun t47 h10 =>
    k2 (bltV h10 (.append 1 8) [t45, t47]) fun t48 h11 =>
    k2 (some (t48, h11)) fun t5_12 h13 =>
    sh X ziY (K_d_2 X) (setL [p3, p4, p5, p14, p15] [t3, t4_6, t5_12, t14, t15]) h13 := by kernel_rfl
theorem s_d_4 (X : Rn) (t3 t4 t5 t6 t14 t15 t18 t19 t20 : Value) (h : H) : sh X zg1 (K_d_4 X) (setL [p3, p4, p5, p6, p14, p15, p18, p19, p20] [t3, t4, t5, t6, t14, t15, t18, t19, t20]) h =
    k2 (vBin .lss .other t20 t19 h) fun t21 h1 =>
    br t21
      (k2 (some (t20, h1)) fun t22 h2 =>
    k2 (zy 1 t18 t20 h2) fun t23 h3 =>
    k2 (zc t23 h3) fun t24 h4 =>
    k2 (some (t22, h4)) fun t7 h5 =>
    k2 (some (t24, h5)) fun t8 h6 =>
    k2 (some (t3, h6)) fun t26 h7 =>
    k2 (some (t8, h7)) fun t27 h8 =>
    k2 (some (t6, h8)) fun t28 h9 =>
    k2 ((zq [(.int .i64 0), (.int .i64 0)] [(0, 1, t27), (1, 1, t28)]).map fun c => (Value.agg ⟨c⟩, h9)) fun t29 h10 =>
    k2 (zbo (.leaves [0, 1]) (.int .i64 0) true t26 t29 h10) fun t30 h11 =>
    k2 (some (t30, h11)) fun t25 h12 =>
    k2 (zn 0 t25 h12) fun t31 h13 =>
    k2 (zn 1 t25 h13) fun t32 h14 =>
    k2 (some (t31, h14)) fun t9 h15 =>
    k2 (some (t32, h15)) fun t10 h16 =>
    k2 (some (t10, h16)) fun t33 h17 =>
    k2 (vUn .not t33 h17) fun t34 h18 =>
    br t34
      (k2 (some (t4, h18)) fun t35 h19 =>
    k2 (some (t7, h19)) fun t36 h20 =>
    k2 (zV 1 (zq (zu [(.int .i64 0)] 1) [(0 * 1, 1, t36)]) h20) fun t37 h21 =>
    k2 (bltV h21 (.append 1 8) [t35, t37]) fun t38 h22 =>
    k2 (some (t38, h22)) fun t4_23 h24 =>
    sh X ziY (K_d_2 X) (setL [p3, p4, p5, p14, p15] [t3, t4_23, t5, t14, t15]) h24)
      (k2 (vBin .add .other t20 (.int .i64 1) h18) fun t39 h25 =>
    k2 (some (t39, h25)) fun t20_26 h27 =>
    lp X [p3, p4, p5, p6, p14, p15, p18, p19, p20] zg1 (kBlk 2 (kSeq X zg2 [p3, p4, p5, p6, p14, p15] (K_d_3 X))) [t3, t4, t5, t6, t14, t15, t18, t19, t20_26] h27))
      (sh X zg2 (K_d_3 X) (setL [p3, p4, p5, p6, p14, p15] [t3, t4, t5, t6, t14, t15]) h1) := by kernel_rfl
theorem l_d_4 (F : FuncId → Option zw) (t3 t4 t5 t6 t14 t15 t18 t19 t20 : Value) (h : H) {r : Out} : let X := rI F; sh X zg1 (K_d_4 X) (setL [p3, p4, p5, p6, p14, p15, p18, p19, p20] [t3, t4, t5, t6, t14, t15, t18, t19, t20]) h = some r → lp X [p3, p4, p5, p6, p14, p15, p18, p19, p20] zg1 (kBlk 2 (kSeq X zg2 [p3, p4, p5, p6, p14, p15] (K_d_3 X))) [t3, t4, t5, t6, t14, t15, t18, t19, t20] h = some r := fun hv => zbp (by decide) hv
theorem s_d_1 (X : Rn) (t3 t4 t5 t14 t15 : Value) (h : H) : sh X zg3 (K_d_1 X) (setL [p3, p4, p5, p14, p15] [t3, t4, t5, t14, t15]) h =
    k2 (vBin .lss .other t15 t14 h) fun t16 h1 =>
    br t16
      (k2 (some (t15, h1)) fun t17 h2 =>
    k2 (some (t17, h2)) fun t6 h3 =>
    k2 (some (t5, h3)) fun t18 h4 =>
    k2 (bltV h4 .len [t18]) fun t19 h5 =>
    k2 (some ((.int .i64 0), h5)) fun t20 h6 =>
    lp X [p3, p4, p5, p6, p14, p15, p18, p19, p20] zg1 (kBlk 2 (kSeq X zg2 [p3, p4, p5, p6, p14, p15] (K_d_3 X))) [t3, t4, t5, t6, t14, t15, t18, t19, t20] h6)
      (sh X zij (K_d_0 X) (setL [p4] [t4]) h1) := by kernel_rfl
theorem l_d_1 (F : FuncId → Option zw) (t3 t4 t5 t14 t15 : Value) (h : H) {r : Out} : let X := rI F; sh X zg3 (K_d_1 X) (setL [p3, p4, p5, p14, p15] [t3, t4, t5, t14, t15]) h = some r → lp X [p3, p4, p5, p14, p15] zg3 (kBlk 0 (kSeq X zij [p4] (K_d_0 X))) [t3, t4, t5, t14, t15] h = some r := fun hv => zbp (by decide) hv
theorem s_d (X : Rn) (t0 : Value) (h : H) : zt X 1 f_d [t0] h =
    k2 (some (zj h (zl t0))) fun t1 h1 =>
    k2 (some ((.slice none 0 0), h1)) fun t2 h2 =>
    k2 (zi 3 t1 h2) fun t11 h3 =>
    k2 (X.call (.func (.func n_b) #[] #[]) [t11] h3) fun t12 h4 =>
    k2 (some (t12, h4)) fun t3 h5 =>
    k2 (some ((.slice none 0 0), h5)) fun t4 h6 =>
    k2 (some ((.slice none 0 0), h6)) fun t5 h7 =>
    k2 (zd 0 t1 h7) fun t13 h8 =>
    k2 (zc t13 h8) fun t14 h9 =>
    k2 (some ((.int .i64 0), h9)) fun t15 h10 =>
    lp X [p3, p4, p5, p14, p15] zg3 (kBlk 0 (kSeq X zij [p4] (K_d_0 X))) [t3, t4, t5, t14, t15] h10 := by kernel_rfl
theorem s_y (X : Rn) (t0 t1 : Value) (h : H) : zt X 2 f_y [t0, t1] h =
    k2 (some (zj h (zl t0))) fun t2 h1 =>
    k2 (some (zj h1 (zl t1))) fun t3 h2 =>
    k2 (some (.nilFunc, h2)) fun t4 h3 =>
    k2 (some (.func (.func n_x) ⟨[]⟩ ⟨[t2, t3]⟩, h3)) fun t5 h4 =>
    k2 (some (t5, h4)) fun t4 h5 =>
    some (.val (zf [t4]) h5) := by kernel_rfl
theorem s_z (X : Rn) (t0 t1 : Value) (h : H) : zt X 2 f_z [t0, t1] h =
    k2 (some ((.int .i64 0), h)) fun t4 h1 =>
    k2 (some (t0, h1)) fun t7 h2 =>
    k2 (X.call (.func (.func n_D) #[] #[]) [t7] h2) fun t8 h3 =>
    k2 (some (t8, h3)) fun t5 h4 =>
    k2 (some (t1, h4)) fun t9 h5 =>
    k2 (X.call (.func (.func n_D) #[] #[]) [t9] h5) fun t10 h6 =>
    k2 (some (t10, h6)) fun t6 h7 =>
    k2 (some (t5, h7)) fun t11 h8 =>
    br t11
      (k2 (some (t6, h8)) fun t12 h9 =>
    br t12
      (k2 (some ((.int .i64 0), h9)) fun t4 h10 =>
    some (.val (zf [t4]) h10))
      (k2 (some ((.int .i64 (-1)), h9)) fun t4 h11 =>
    some (.val (zf [t4]) h11)))
      (k2 (some (t6, h8)) fun t13 h12 =>
    br t13
      (k2 (some ((.int .i64 1), h12)) fun t4 h13 =>
    some (.val (zf [t4]) h13))
      (k2 (some (t0, h12)) fun t14 h14 =>
    k2 (some (t1, h14)) fun t15 h15 =>
    k2 (vBin .lss .other t14 t15 h15) fun t16 h16 =>
    br t16
      (k2 (some ((.int .i64 (-1)), h16)) fun t4 h17 =>
    some (.val (zf [t4]) h17))
      (k2 (some (t0, h16)) fun t17 h18 =>
    k2 (some (t1, h18)) fun t18 h19 =>
    k2 (vBin .gtr .other t17 t18 h19) fun t19 h20 =>
    br t19
      (k2 (some ((.int .i64 1), h20)) fun t4 h21 =>
    some (.val (zf [t4]) h21))
      (k2 (some ((.int .i64 0), h20)) fun t4 h22 =>
    some (.val (zf [t4]) h22))))) := by kernel_rfl
theorem s_t_0 (X : Rn) (t3 : Value) (h : H) : sh X zii (K_t_0 X) (setL [p3] [t3]) h =
    k2 (some (t3, h)) fun t17 h1 =>
    k2 (some (t17, h1)) fun t2 h2 =>
    some (.val (zf [t2]) h2) := by kernel_rfl
theorem s_t_1 (X : Rn) (t3 t6 t7 t8 : Value) (h : H) : sh X zih (K_t_1 X) (setL [p3, p6, p7, p8] [t3, t6, t7, t8]) h =
    k2 (vBin .lss .other t8 t7 h) fun t9 h1 =>
    br t9
      (k2 (zy 1 t6 t8 h1) fun t10 h2 =>
    k2 (zc t10 h2) fun t11 h3 =>
    k2 (some (t11, h3)) fun t5 h4 =>
    k2 (some (t5, h4)) fun t12 h5 =>
    k2 (some (t3, h5)) fun t13 h6 =>
    k2 (vBin .neq .other t12 t13 h6) fun t14 h7 =>
    br t14
      (k2 (some (t5, h7)) fun t15 h8 =>
    k2 (some (t15, h8)) fun t2 h9 =>
    some (.val (zf [t2]) h9))
      (k2 (vBin .add .other t8 (.int .i64 1) h7) fun t16 h10 =>
    k2 (some (t16, h10)) fun t8_11 h12 =>
    lp X [p3, p6, p7, p8] zih (kBlk 0 (kSeq X zii [p3] (K_t_0 X))) [t3, t6, t7, t8_11] h12))
      (sh X zii (K_t_0 X) (setL [p3] [t3]) h1) := by kernel_rfl
theorem l_t_1 (F : FuncId → Option zw) (t3 t6 t7 t8 : Value) (h : H) {r : Out} : let X := rI F; sh X zih (K_t_1 X) (setL [p3, p6, p7, p8] [t3, t6, t7, t8]) h = some r → lp X [p3, p6, p7, p8] zih (kBlk 0 (kSeq X zii [p3] (K_t_0 X))) [t3, t6, t7, t8] h = some r := fun hv => zbp (by decide) hv
theorem s_t (X : Rn) (t0 : Value) (h : H) : zt X 1 f_t [t0] h =
    k2 (some ((.int .i64 0), h)) fun t2 h1 =>
    k2 (some ((.int .i64 0), h1)) fun t3 h2 =>
    k2 (some (t0, h2)) fun t6 h3 =>
    k2 (bltV h3 .len [t6]) fun t7 h4 =>
    k2 (some ((.int .i64 0), h4)) fun t8 h5 =>
    lp X [p3, p6, p7, p8] zih (kBlk 0 (kSeq X zii [p3] (K_t_0 X))) [t3, t6, t7, t8] h5 := by kernel_rfl
theorem s_g_0 (X : Rn) (t10 t11 : Value) (h : H) : sh X c_g_0 (K_g_0 X) (setL [p10, p11] [t10, t11]) h =
    k2 ((zq [(.int .i64 0), (.int .i64 0), (.int .i64 0)] []).map fun c => (Value.agg ⟨c⟩, h)) fun t24 h1 =>
    k2 (zo 3 t10 t24 h1) fun _ h2 =>
    k2 (zo 1 t11 (.bool false) h2) fun _ h3 =>
    (vRes (some 3) t10 h3).bind fun r0 => (vRes none t11 h3).bind fun r1 => some (.val (zf [r0, r1]) h3) := by kernel_rfl
theorem s_g_1 (X : Rn) (l : Nat) (t5 t6 t8 t9 t10 t11 t16 : Value) (h : H) : zT X zdC l [t16] (setL [p5, p6, p8, p9, p10, p11] [t5, t6, t8, t9, t10, t11]) h =
    k2 (some (zj h [(.int .i64 0), (.int .i64 0), (.int .i64 0)])) fun t12 h1 =>
    k2 (zo 3 t12 t16 h1) fun _ h2 =>
    zem l h2 fun h => sh X c_g_2 (K_g_2 X l) (setL [p5, p6, p8, p9, p10, p11, p12, p16] [t5, t6, t8, t9, t10, t11, t12, t16]) h := by kernel_rfl
theorem s_g_2 (X : Rn) (l : Nat) (t5 t6 t8 t9 t10 t11 t12 t16 : Value) (h : H) : sh X c_g_2 (K_g_2 X l) (setL [p5, p6, p8, p9, p10, p11, p12, p16] [t5, t6, t8, t9, t10, t11, t12, t16]) h =
    k2 (zc t5 h) fun t17 h1 =>
    k2 (zi 3 t6 h1) fun t18 h2 =>
    k2 (zi 3 t12 h2) fun t19 h3 =>
    k2 (zc t8 h3) fun t20 h4 =>
    k2 (zc t9 h4) fun t21 h5 =>
    k2 (X.call (.func (.func n_j) #[] #[]) [t17, t18, t19, t20, t21] h5) fun t22 h6 =>
    br t22
      (k2 (zi 3 t12 h6) fun t23 h7 =>
    k2 (zo 3 t10 t23 h7) fun _ h8 =>
    k2 (zo 1 t11 (.bool true) h8) fun _ h9 =>
    fin l (some .ret) h9)
      (fin l none h6) := by kernel_rfl
theorem s_g (X : Rn) (t0 t1 t2 t3 t4 : Value) (h : H) : zt X 5 f_g [t0, t1, t2, t3, t4] h =
    k2 (some (zj h (zl t0))) fun t5 h1 =>
    k2 (some (zj h1 (zl t1))) fun t6 h2 =>
    k2 (some (zj h2 (zl t3))) fun t8 h3 =>
    k2 (some (zj h3 (zl t4))) fun t9 h4 =>
    k2 (some (zj h4 [(.int .i64 0), (.int .i64 0), (.int .i64 0)])) fun t10 h5 =>
    k2 (some (zj h5 [(.bool false)])) fun t11 h6 =>
    k2 (zi 3 t6 h6) fun t13 h7 =>
    k2 (some (t2, h7)) fun t14 h8 =>
    k2 (X.call (.func (.func n_y) #[] #[]) [t13, t14] h8) fun t15 h9 =>
    (isFn t15).bind fun fv => k2 (X.call fv [.func (.yield h9.next) #[] #[]] (h9.new (.loop .ready none (setL [p5, p6, p8, p9, p10, p11] [t5, t6, t8, t9, t10, t11]) zdC))) fun _ h10 =>
    rgP h9.next h10 (fun h11 => sh X c_g_0 (K_g_0 X) (setL [p10, p11] [t10, t11]) h11) (fun i h11 => bx i 0 (sh X c_g_0 (K_g_0 X) (setL [p10, p11] [t10, t11]) h11) (none)) (fun h11 => (vRes (some 3) t10 h11).bind fun r0 => (vRes none t11 h11).bind fun r1 => some (.val (zf [r0, r1]) h11)) := by kernel_rfl
theorem s_v (X : Rn) (t0 t1 t2 : Value) (h : H) : zt X 3 f_v [t0, t1, t2] h =
    k2 (some (zj h (zl t0))) fun t3 h1 =>
    k2 (some (zj h1 (zl t1))) fun t4 h2 =>
    k2 (some (zj h2 (zl t2))) fun t5 h3 =>
    k2 (some (.nilFunc, h3)) fun t6 h4 =>
    k2 (some (.func (.func n_B) ⟨[]⟩ ⟨[t3, t4, t5]⟩, h4)) fun t7 h5 =>
    k2 (some (t7, h5)) fun t6 h6 =>
    some (.val (zf [t6]) h6) := by kernel_rfl
theorem s_x_0 (X : Rn) (t0 t2 t18 t19 t20 : Value) (h : H) : sh X zig (K_x_0 X) (setL [p0, p2, p18, p19, p20] [t0, t2, t18, t19, t20]) h =
    k2 (vBin .lss .other t20 t19 h) fun t21 h1 =>
    br t21
      (k2 (zy 3 t18 t20 h1) fun t22 h2 =>
    k2 (zi 3 t22 h2) fun t23 h3 =>
    k2 (some (zj h3 [(.int .i64 0), (.int .i64 0), (.int .i64 0)])) fun t7 h4 =>
    k2 (zo 3 t7 t23 h4) fun _ h5 =>
    k2 (zd 0 t7 h5) fun t24 h6 =>
    k2 (zc t24 h6) fun t25 h7 =>
    k2 (zc t2 h7) fun t26 h8 =>
    k2 (vBin .neq .other t25 t26 h8) fun t27 h9 =>
    k2 (some (t27, h9)) fun t28 h10 =>
    k2 (gd t28 false h10 (some (t0, h10))) fun t29 h11 =>
    k2 (gd t28 false h11 (zi 3 t7 h11)) fun t30 h12 =>
    k2 (gd t28 false h12 (X.call t29 [t30] h12)) fun t31 h13 =>
    k2 (gd t28 false h13 (vUn .not t31 h13)) fun t32 h14 =>
    k2 (zI t28 (.bool true) t32 h14) fun t33 h15 =>
    br t33
      (some (.val (zf []) h15))
      (k2 (vBin .add .other t20 (.int .i64 1) h15) fun t34 h16 =>
    k2 (some (t34, h16)) fun t20_17 h18 =>
    lp X [p0, p2, p18, p19, p20] zig (kBlk 0 (fnK [])) [t0, t2, t18, t19, t20_17] h18))
      (some (.val (zf []) h1)) := by kernel_rfl
theorem l_x_0 (F : FuncId → Option zw) (t0 t2 t18 t19 t20 : Value) (h : H) {r : Out} : let X := rI F; sh X zig (K_x_0 X) (setL [p0, p2, p18, p19, p20] [t0, t2, t18, t19, t20]) h = some r → lp X [p0, p2, p18, p19, p20] zig (kBlk 0 (fnK [])) [t0, t2, t18, t19, t20] h = some r := fun hv => zbp (by decide) hv
theorem s_x (X : Rn) (t0 t1 t2 : Value) (h : H) : zt X 3 f_x [t0, t1, t2] h =
    k2 (zd 2 t1 h) fun t9 h1 =>
    k2 (zc t9 h1) fun t10 h2 =>
    k2 (zc t2 h2) fun t11 h3 =>
    k2 (X.call (.func (.func n_a) #[] #[]) [t10, t11, (.func (.func n_O) #[] #[])] h3) fun t12 h4 =>
    k2 (some (t12, h4)) fun t8 h5 =>
    k2 (zn 0 t8 h5) fun t13 h6 =>
    k2 (zn 1 t8 h6) fun t14 h7 =>
    k2 (some (t13, h7)) fun t4 h8 =>
    k2 (some (t14, h8)) fun t5 h9 =>
    k2 (zd 2 t1 h9) fun t15 h10 =>
    k2 (zc t15 h10) fun t16 h11 =>
    k2 (some (t4, h11)) fun t17 h12 =>
    k2 (zd3 3 h12 (some t17) none t16) fun t18 h13 =>
    k2 (bltV h13 .len [t18]) fun t19 h14 =>
    k2 (some ((.int .i64 0), h14)) fun t20 h15 =>
    lp X [p0, p2, p18, p19, p20] zig (kBlk 0 (fnK [])) [t0, t2, t18, t19, t20] h15 := by kernel_rfl
theorem s_a_0 (X : Rn) (t0 t1 t2 t8 t9 : Value) (h : H) : sh X zg9 (K_a_0 X) (setL [p0, p1, p2, p8, p9] [t0, t1, t2, t8, t9]) h =
    k2 (some (t9, h)) fun t35 h1 =>
    k2 (some (t9, h1)) fun t36 h2 =>
    k2 (some (t8, h2)) fun t37 h3 =>
    k2 (vBin .lss .other t36 t37 h3) fun t38 h4 =>
    k2 (some (t38, h4)) fun t39 h5 =>
    k2 (gd t39 true h5 (some (t2, h5))) fun t40 h6 =>
    k2 (gd t39 true h6 (some (t0, h6))) fun t41 h7 =>
    k2 (gd t39 true h7 (some (t9, h7))) fun t42 h8 =>
    k2 (gd t39 true h8 (zy 3 t41 t42 h8)) fun t43 h9 =>
    k2 (gd t39 true h9 (zi 3 t43 h9)) fun t44 h10 =>
    k2 (gd t39 true h10 (some (t1, h10))) fun t45 h11 =>
    k2 (gd t39 true h11 (X.call t40 [t44, t45] h11)) fun t46 h12 =>
    k2 (gd t39 true h12 (vBin .eql .other t46 (.int .i64 0) h12)) fun t47 h13 =>
    k2 (zI t39 t47 (.bool false) h13) fun t48 h14 =>
    k2 (some (t35, h14)) fun t6 h15 =>
    k2 (some (t48, h15)) fun t7 h16 =>
    some (.val (zf [t6, t7]) h16) := by kernel_rfl
theorem s_a_1 (X : Rn) (t0 t1 t2 t8 t9 t10 : Value) (h : H) : sh X zgt (K_a_1 X) (setL [p0, p1, p2, p8, p9, p10] [t0, t1, t2, t8, t9, t10]) h =
    k2 (some (t9, h)) fun t15 h1 =>
    k2 (some (t10, h1)) fun t16 h2 =>
    k2 (vBin .lss .other t15 t16 h2) fun t17 h3 =>
    br t17
      (k2 (some (t9, h3)) fun t18 h4 =>
    k2 (some (t10, h4)) fun t19 h5 =>
    k2 (vBin .add .other t18 t19 h5) fun t20 h6 =>
    k2 (vConv .u64 t20 h6) fun t21 h7 =>
    k2 (vBin .shr .other t21 (.int .u64 1) h7) fun t22 h8 =>
    k2 (vConv .i64 t22 h8) fun t23 h9 =>
    k2 (some (t23, h9)) fun t11 h10 =>
    k2 (some (t2, h10)) fun t24 h11 =>
    k2 (some (t0, h11)) fun t25 h12 =>
    k2 (some (t11, h12)) fun t26 h13 =>
    k2 (zy 3 t25 t26 h13) fun t27 h14 =>
    k2 (zi 3 t27 h14) fun t28 h15 =>
    k2 (some (t1, h15)) fun t29 h16 =>
    k2 (X.call t24 [t28, t29] h16) fun t30 h17 =>
    k2 (vBin .lss .other t30 (.int .i64 0) h17) fun t31 h18 =>
    br t31
      (k2 (some (t11, h18)) fun t32 h19 =>
    k2 (vBin .add .other t32 (.int .i64 1) h19) fun t33 h20 =>
    k2 (some (t33, h20)) fun t9_21 h22 =>
    lp X [p0, p1, p2, p8, p9, p10] zgt (kBlk 0 (kSeq X zg9 [p0, p1, p2, p8, p9] (K_a_0 X))) [t0, t1, t2, t8, t9_21, t10] h22)
      (k2 (some (t11, h18)) fun t34 h23 =>
    k2 (some (t34, h23)) fun t10_24 h25 =>
    lp X [p0, p1, p2, p8, p9, p10] zgt (kBlk 0 (kSeq X zg9 [p0, p1, p2, p8, p9] (K_a_0 X))) [t0, t1, t2, t8, t9, t10_24] h25))
      (sh X zg9 (K_a_0 X) (setL [p0, p1, p2, p8, p9] [t0, t1, t2, t8, t9]) h3) := by kernel_rfl
theorem l_a_1 (F : FuncId → Option zw) (t0 t1 t2 t8 t9 t10 : Value) (h : H) {r : Out} : let X := rI F; sh X zgt (K_a_1 X) (setL [p0, p1, p2, p8, p9, p10] [t0, t1, t2, t8, t9, t10]) h = some r → lp X [p0, p1, p2, p8, p9, p10] zgt (kBlk 0 (kSeq X zg9 [p0, p1, p2, p8, p9] (K_a_0 X))) [t0, t1, t2, t8, t9, t10] h = some r := fun hv => zbp (by decide) hv
theorem s_a (X : Rn) (t0 t1 t2 : Value) (h : H) : zt X 3 f_a [t0, t1, t2] h =
    k2 (some ((.int .i64 0), h)) fun t6 h1 =>
    k2 (some ((.bool false), h1)) fun t7 h2 =>
    k2 (some (t0, h2)) fun t12 h3 =>
    k2 (bltV h3 .len [t12]) fun t13 h4 =>
    k2 (some (t13, h4)) fun t8 h5 =>
    k2 (some (t8, h5)) fun t14 h6 =>
    k2 (some ((.int .i64 0), h6)) fun t9 h7 =>
    k2 (some (t14, h7)) fun t10 h8 =>
    lp X [p0, p1, p2, p8, p9, p10] zgt (kBlk 0 (kSeq X zg9 [p0, p1, p2, p8, p9] (K_a_0 X))) [t0, t1, t2, t8, t9, t10] h8 := by kernel_rfl
theorem s_O (X : Rn) (t0 t1 : Value) (h : H) : zt X 2 f_O [t0, t1] h =
    k2 (some (zj h (zl t0))) fun t2 h1 =>
    k2 (some ((.int .i64 0), h1)) fun t4 h2 =>
    k2 (zd 0 t2 h2) fun t5 h3 =>
    k2 (zc t5 h3) fun t6 h4 =>
    k2 (some (t1, h4)) fun t7 h5 =>
    k2 (X.call (.func (.func n_z) #[] #[]) [t6, t7] h5) fun t8 h6 =>
    k2 (some (t8, h6)) fun t4 h7 =>
    some (.val (zf [t4]) h7) := by kernel_rfl
theorem s_D (X : Rn) (t0 : Value) (h : H) : zt X 1 f_D [t0] h =
    k2 (some ((.bool false), h)) fun t2 h1 =>
    k2 (some (t0, h1)) fun t3 h2 =>
    k2 (some (t0, h2)) fun t4 h3 =>
    k2 (vBin .neq .other t3 t4 h3) fun t5 h4 =>
    k2 (some (t5, h4)) fun t2 h5 =>
    some (.val (zf [t2]) h5) := by kernel_rfl
theorem s_j_0 (X : Rn) (t10 : Value) (h : H) : sh X c_j_0 (K_j_0 X) (setL [p10] [t10]) h =
    k2 (zo 1 t10 (.bool true) h) fun _ h1 =>
    (vRes none t10 h1).bind fun r0 => some (.val (zf [r0]) h1) := by kernel_rfl
theorem s_j_1 (X : Rn) (l : Nat) (t5 t7 t9 t10 t20 : Value) (h : H) : zT X zde l [t20] (setL [p5, p7, p9, p10] [t5, t7, t9, t10]) h =
    k2 (some (t20, h)) fun t11 h1 =>
    zem l h1 fun h => sh X c_j_2 (K_j_2 X l) (setL [p5, p7, p9, p10, p11, p20] [t5, t7, t9, t10, t11, t20]) h := by kernel_rfl
theorem s_j_2 (X : Rn) (l : Nat) (t5 t7 t9 t10 t11 t20 : Value) (h : H) : sh X c_j_2 (K_j_2 X l) (setL [p5, p7, p9, p10, p11, p20] [t5, t7, t9, t10, t11, t20]) h =
    k2 (zd 1 t7 h) fun t21 h1 =>
    k2 (zc t21 h1) fun t22 h2 =>
    k2 (some (t11, h2)) fun t23 h3 =>
    k2 ((zq [(.int .i64 0), (.int .i64 0)] [(0, 1, t22), (1, 1, t23)]).map fun c => (Value.agg ⟨c⟩, h3)) fun t24 h4 =>
    k2 (some (zj h4 [(.int .i64 0), (.int .i64 0)])) fun t12 h5 =>
    k2 (zo 2 t12 t24 h5) fun _ h6 =>
    k2 (zc t5 h6) fun t26 h7 =>
    k2 (zi 2 t12 h7) fun t27 h8 =>
    k2 (zbo (.leaves [0, 1]) (.int .i64 0) true t26 t27 h8) fun t28 h9 =>
    k2 (some (t28, h9)) fun t25 h10 =>
    k2 (zn 0 t25 h10) fun t29 h11 =>
    k2 (zn 1 t25 h11) fun t30 h12 =>
    k2 (some (t29, h12)) fun t13 h13 =>
    k2 (some (t30, h13)) fun t14 h14 =>
    k2 (zi 2 t12 h14) fun t31 h15 =>
    k2 (some (t11, h15)) fun t32 h16 =>
    k2 (some (t11, h16)) fun t33 h17 =>
    k2 ((zq [(.int .i64 0), (.int .i64 0)] [(0, 1, t32), (1, 1, t33)]).map fun c => (Value.agg ⟨c⟩, h17)) fun t34 h18 =>
    k2 (vBin .eql (.leaves [0, 1]) t31 t34 h18) fun t35 h19 =>
    k2 (some (t35, h19)) fun t36 h20 =>
    k2 (gd t36 false h20 (some (t14, h20))) fun t37 h21 =>
    k2 (gd t36 false h21 (vUn .not t37 h21)) fun t38 h22 =>
    k2 (zI t36 (.bool true) t38 h22) fun t39 h23 =>
    k2 (some (t39, h23)) fun t40 h24 =>
    k2 (gd t40 false h24 (some (t13, h24))) fun t41 h25 =>
    k2 (gd t40 false h25 (zc t9 h25)) fun t42 h26 =>
    k2 (gd t40 false h26 (vBin .gtr .other t41 t42 h26)) fun t43 h27 =>
    k2 (zI t40 (.bool true) t43 h27) fun t44 h28 =>
    br t44
      (k2 (zo 1 t10 (.bool false) h28) fun _ h29 =>
    fin l (some .ret) h29)
      (fin l none h28) := by kernel_rfl
theorem s_j (X : Rn) (t0 t1 t2 t3 t4 : Value) (h : H) : zt X 5 f_j [t0, t1, t2, t3, t4] h =
    k2 (some (zj h (zl t0))) fun t5 h1 =>
    k2 (some (zj h1 (zl t1))) fun t6 h2 =>
    k2 (some (zj h2 (zl t2))) fun t7 h3 =>
    k2 (some (zj h3 (zl t4))) fun t9 h4 =>
    k2 (some (zj h4 [(.bool false)])) fun t10 h5 =>
    k2 (zi 3 t6 h5) fun t15 h6 =>
    k2 (some (t3, h6)) fun t16 h7 =>
    k2 (zd 2 t7 h7) fun t17 h8 =>
    k2 (zc t17 h8) fun t18 h9 =>
    k2 (X.call (.func (.func n_v) #[] #[]) [t15, t16, t18] h9) fun t19 h10 =>
    (isFn t19).bind fun fv => k2 (X.call fv [.func (.yield h10.next) #[] #[]] (h10.new (.loop .ready none (setL [p5, p7, p9, p10] [t5, t7, t9, t10]) zde))) fun _ h11 =>
    rgP h10.next h11 (fun h12 => sh X c_j_0 (K_j_0 X) (setL [p10] [t10]) h12) (fun i h12 => bx i 0 (sh X c_j_0 (K_j_0 X) (setL [p10] [t10]) h12) (none)) (fun h12 => (vRes none t10 h12).bind fun r0 => some (.val (zf [r0]) h12)) := by kernel_rfl
theorem s_B_0 (X : Rn) (l : Nat) (t3 t4 t9 : Value) (h : H) : zT X zd8 l [t9] (setL [p3, p4] [t3, t4]) h =
    k2 (some (zj h [(.int .i64 0), (.int .i64 0), (.int .i64 0)])) fun t5 h1 =>
    k2 (zo 3 t5 t9 h1) fun _ h2 =>
    zem l h2 fun h => sh X c_B_1 (K_B_1 X l) (setL [p3, p4, p5, p9] [t3, t4, t5, t9]) h := by kernel_rfl
theorem s_B_1 (X : Rn) (l : Nat) (t3 t4 t5 t9 : Value) (h : H) : sh X c_B_1 (K_B_1 X l) (setL [p3, p4, p5, p9] [t3, t4, t5, t9]) h =
    k2 (zd 2 t5 h) fun t10 h1 =>
    k2 (zc t10 h1) fun t11 h2 =>
    k2 (zc t3 h2) fun t12 h3 =>
    k2 (vBin .eql .other t11 t12 h3) fun t13 h4 =>
    k2 (some (t13, h4)) fun t14 h5 =>
    k2 (gd t14 true h5 (zc t4 h5)) fun t15 h6 =>
    k2 (gd t14 true h6 (zd 1 t5 h6)) fun t16 h7 =>
    k2 (gd t14 true h7 (zc t16 h7)) fun t17 h8 =>
    k2 (gd t14 true h8 (X.call t15 [t17] h8)) fun t18 h9 =>
    k2 (gd t14 true h9 (vUn .not t18 h9)) fun t19 h10 =>
    k2 (zI t14 t19 (.bool false) h10) fun t20 h11 =>
    br t20
      (fin l (some .ret) h11)
      (fin l none h11) := by kernel_rfl
theorem s_B (X : Rn) (t0 t1 t2 t3 : Value) (h : H) : zt X 4 f_B [t0, t1, t2, t3] h =
    k2 (some (zj h (zl t0))) fun t4 h1 =>
    k2 (zi 3 t1 h1) fun t6 h2 =>
    k2 (zc t2 h2) fun t7 h3 =>
    k2 (X.call (.func (.func n_y) #[] #[]) [t6, t7] h3) fun t8 h4 =>
    (isFn t8).bind fun fv => k2 (X.call fv [.func (.yield h4.next) #[] #[]] (h4.new (.loop .ready none (setL [p3, p4] [t3, t4]) zd8))) fun _ h5 =>
    rgP h4.next h5 (fun h6 => some (.val (zf []) h6)) (fun i h6 => bx i 0 (some (.val (zf []) h6)) (none)) (fun h6 => some (.val (zf []) h6)) := by kernel_rfl
theorem s_bisA_0 (X : Rn) (t3 t4 t8 t17 t18 t19 : Value) (h : H) : sh X zc7 (K_bisA_0 X) (setL [p3, p4, p8, p17, p18, p19] [t3, t4, t8, t17, t18, t19]) h =
    k2 (vBin .lss .other t19 t18 h) fun t20 h1 =>
    br t20
      (k2 (zy 2 t17 t19 h1) fun t21 h2 =>
    k2 (zi 2 t21 h2) fun t22 h3 =>
    k2 (some (zj h3 [(.int .i64 0), (.int .i64 0)])) fun t10 h4 =>
    k2 (zo 2 t10 t22 h4) fun _ h5 =>
    k2 (zbf 2 1 t10 (.int .i64 0) h5) fun t23 h6 =>
    k2 (zc t23 h6) fun t24 h7 =>
    k2 (zbf 2 1 t10 (.int .i64 1) h7) fun t25 h8 =>
    k2 (zc t25 h8) fun t26 h9 =>
    k2 (bltV h9 .min [t24, t26]) fun t27 h10 =>
    k2 (vBin .lss .other t27 (.int .i64 0) h10) fun t28 h11 =>
    k2 (some (t28, h11)) fun t29 h12 =>
    k2 (gd t29 false h12 (zbf 2 1 t10 (.int .i64 0) h12)) fun t30 h13 =>
    k2 (gd t29 false h13 (zc t30 h13)) fun t31 h14 =>
    k2 (gd t29 false h14 (zd 0 t3 h14)) fun t32 h15 =>
    k2 (gd t29 false h15 (zc t32 h15)) fun t33 h16 =>
    k2 (gd t29 false h16 (vBin .geq .other t31 t33 h16)) fun t34 h17 =>
    k2 (zI t29 (.bool true) t34 h17) fun t35 h18 =>
    k2 (some (t35, h18)) fun t36 h19 =>
    k2 (gd t36 false h19 (zbf 2 1 t10 (.int .i64 1) h19)) fun t37 h20 =>
    k2 (gd t36 false h20 (zc t37 h20)) fun t38 h21 =>
    k2 (gd t36 false h21 (zd 0 t4 h21)) fun t39 h22 =>
    k2 (gd t36 false h22 (zc t39 h22)) fun t40 h23 =>
    k2 (gd t36 false h23 (vBin .geq .other t38 t40 h23)) fun t41 h24 =>
    k2 (zI t36 (.bool true) t41 h24) fun t42 h25 =>
    br t42
      (k2 (some ((.bool false), h25)) fun t6 h26 =>
    k2 (some ((.int .i64 2), h26)) fun t7 h27 =>
    some (.val (.tuple ⟨[(.bool false), t6, t7]⟩) h27))
      (k2 (some (t8, h25)) fun t43 h28 =>
    k2 (zi 2 t10 h28) fun t44 h29 =>
    k2 (zdh (.leaves [0, 1]) h29 t44 (.bool true) t43) fun _ h30 =>
    k2 (vBin .add .other t19 (.int .i64 1) h30) fun t45 h31 =>
    k2 (some (t45, h31)) fun t19_32 h33 =>
    lp X [p3, p4, p8, p17, p18, p19] zc7 (kBlk 0 (pK [p3, p4, p8] [p6, p7])) [t3, t4, t8, t17, t18, t19_32] h33))
      (some (.val (.tuple ⟨[(.bool true), t3, t4, t8]⟩) h1)) := by kernel_rfl
theorem l_bisA_0 (F : FuncId → Option zw) (t3 t4 t8 t17 t18 t19 : Value) (h : H) {r : Out} : let X := rI F; sh X zc7 (K_bisA_0 X) (setL [p3, p4, p8, p17, p18, p19] [t3, t4, t8, t17, t18, t19]) h = some r → lp X [p3, p4, p8, p17, p18, p19] zc7 (kBlk 0 (pK [p3, p4, p8] [p6, p7])) [t3, t4, t8, t17, t18, t19] h = some r := fun hv => zbp (by decide) hv
theorem s_bisA (X : Rn) (t0 t1 t2 : Value) (h : H) : sh X c_bisA (pK [p3, p4, p8] [p6, p7]) (setL [p0, p1, p2] [t0, t1, t2]) h =
    k2 (some (zj h (zl t0))) fun t3 h1 =>
    k2 (some (zj h1 (zl t1))) fun t4 h2 =>
    k2 (some ((.bool false), h2)) fun t6 h3 =>
    k2 (some ((.int .i64 0), h3)) fun t7 h4 =>
    k2 (zi 3 t3 h4) fun t12 h5 =>
    k2 (zi 3 t4 h5) fun t13 h6 =>
    k2 (X.call (.func (.func n_J) #[] #[]) [t12, t13] h6) fun t14 h7 =>
    k2 (vUn .not t14 h7) fun t15 h8 =>
    br t15
      (k2 (some ((.bool false), h8)) fun t6 h9 =>
    k2 (some ((.int .i64 2), h9)) fun t7 h10 =>
    some (.val (.tuple ⟨[(.bool false), t6, t7]⟩) h10))
      (k2 (some (.map (some h8.next), h8.new (.map [] 0))) fun t16 h11 =>
    k2 (some (t16, h11)) fun t8 h12 =>
    k2 (some (t2, h12)) fun t17 h13 =>
    k2 (bltV h13 .len [t17]) fun t18 h14 =>
    k2 (some ((.int .i64 0), h14)) fun t19 h15 =>
    lp X [p3, p4, p8, p17, p18, p19] zc7 (kBlk 0 (pK [p3, p4, p8] [p6, p7])) [t3, t4, t8, t17, t18, t19] h15) := by kernel_rfl
theorem s_bisB (X : Rn) (t3 t4 t8 t11 : Value) (h : H) : sh X c_bisB (pK [p3, p4, p8] [p6, p7]) (setL [p3, p4, p8, p11] [t3, t4, t8, t11]) h =
    k2 (zi 3 t3 h) fun t52 h1 =>
    k2 (zi 3 t4 h1) fun t53 h2 =>
    k2 (zbf 2 1 t11 (.int .i64 0) h2) fun t54 h3 =>
    k2 (zc t54 h3) fun t55 h4 =>
    k2 (zbf 2 1 t11 (.int .i64 1) h4) fun t56 h5 =>
    k2 (zc t56 h5) fun t57 h6 =>
    k2 (some (t8, h6)) fun t58 h7 =>
    k2 (X.call (.func (.func n_k) #[] #[]) [t52, t53, t55, t57, t58, (.bool false)] h7) fun t59 h8 =>
    k2 (vUn .not t59 h8) fun t60 h9 =>
    k2 (some (t60, h9)) fun t61 h10 =>
    k2 (gd t61 false h10 (zi 3 t4 h10)) fun t62 h11 =>
    k2 (gd t61 false h11 (zi 3 t3 h11)) fun t63 h12 =>
    k2 (gd t61 false h12 (zbf 2 1 t11 (.int .i64 1) h12)) fun t64 h13 =>
    k2 (gd t61 false h13 (zc t64 h13)) fun t65 h14 =>
    k2 (gd t61 false h14 (zbf 2 1 t11 (.int .i64 0) h14)) fun t66 h15 =>
    k2 (gd t61 false h15 (zc t66 h15)) fun t67 h16 =>
    k2 (gd t61 false h16 (some (t8, h16))) fun t68 h17 =>
    k2 (gd t61 false h17 (X.call (.func (.func n_k) #[] #[]) [t62, t63, t65, t67, t68, (.bool true)] h17)) fun t69 h18 =>
    k2 (gd t61 false h18 (vUn .not t69 h18)) fun t70 h19 =>
    k2 (zI t61 (.bool true) t70 h19) fun t71 h20 =>
    br t71
      (k2 (some ((.bool false), h20)) fun t6 h21 =>
    k2 (some ((.int .i64 0), h21)) fun t7 h22 =>
    some (.val (.tuple ⟨[(.bool false), t6, t7]⟩) h22))
      (some (.val (.tuple ⟨[(.bool true), t3, t4, t8]⟩) h20)) := by kernel_rfl
end Go.Ideal.J
end
namespace Go.Ideal.J
open Go Go.Ideal
abbrev edL (a : Int × Int × Int) : List Value := [.int .i64 a.1, .int .i64 a.2.1, .int .i64 a.2.2]
abbrev edV (a : Int × Int × Int) : Value := .agg ⟨edL a⟩
def zeU (a b : Int × Int × Int) : Bool := if a.1 ≠ b.1 then decide (a.1 < b.1) else if a.2.2 ≠ b.2.2 then decide (a.2.2 < b.2.2) else decide (a.2.1 < b.2.1)
def cmpE (a b : Int) : Int := if a < b then -1 else if b < a then 1 else 0
theorem isNaN_ok (a : Int) (h : H) : zbv F (fnV n_D) [.int .i64 a] h = some (.bool false, h) := by
  refine zbg F_D 1 (by decide) ?_
  rw [s_D]
  simp
theorem zjw (a b : Int) (h : H) : zbv F (fnV n_z) [.int .i64 a, .int .i64 b] h = some (.int .i64 (cmpE a b), h) := by
  refine zbg F_z 2 (by decide) ?_
  rw [s_z]
  by_cases h1 : a < b
  · simp [isNaN_ok, cmpE, h1]
  · by_cases h2 : b < a
    · simp [isNaN_ok, cmpE, h1, h2]
    · simp [isNaN_ok, cmpE, h1, h2]
def orV (x y z : Int) : Int := if x ≠ 0 then x else if y ≠ 0 then y else z
theorem or_ok (x y z : Int) (h : H) (b : Nat) (hg : h.get b = some (.cells [.int .i64 x, .int .i64 y, .int .i64 z] 0)) : zbv F (fnV n_t) [.slice (some ⟨b, 0, none⟩) 3 3] h = some (.int .i64 (orV x y z), h) := by
  refine zbg F_t 1 (by decide) ?_
  rw [s_t]
  simp
  refine l_t_1 F _ _ _ _ _ ?_
  rw [s_t_1]
  by_cases hx : x = 0
  · simp [hg, hx]
    refine l_t_1 F _ _ _ _ _ ?_
    rw [s_t_1]
    by_cases hy : y = 0
    · simp [hg, hy]
      refine l_t_1 F _ _ _ _ _ ?_
      rw [s_t_1]
      by_cases hz : z = 0
      · simp [hg, hz]
        refine l_t_1 F _ _ _ _ _ ?_
        rw [s_t_1]
        simp [s_t_0, orV]
      · simp [hg, hz, orV]
    · simp [hg, hy, orV]
  · simp [hg, hx, orV]
def cmpT (a b : Int × Int × Int) : Int := orV (cmpE a.1 b.1) (cmpE a.2.2 b.2.2) (cmpE a.2.1 b.2.1)
theorem zdS (a b : Int × Int × Int) (h : H) : zbv F (fnV n_H) [edV a, edV b] h = some (.int .i64 (cmpT a b), ((h.new (.cells (edL a) 0)).new (.cells (edL b) 0)).new (.cells [.int .i64 (cmpE a.1 b.1), .int .i64 (cmpE a.2.2 b.2.2), .int .i64 (cmpE a.2.1 b.2.1)] 0)) := by
  refine zbg F_H 2 (by decide) ?_
  rw [s_H]
  simp [zjw, zq, zu]
  rw [or_ok (cmpE a.1 b.1) (cmpE a.2.2 b.2.2) (cmpE a.2.1 b.2.1) _ _ (by simp)]
  simp [cmpT]
abbrev gL (st lb : Int) (sl : Value) : List Value := [.int .i64 st, .int .i64 lb, sl]
abbrev gV (st lb : Int) (sl : Value) : Value := .agg ⟨gL st lb sl⟩
abbrev Ed := Int × Int × Int
def badE (st lb : Int) (x : Ed) : Bool := decide (x.1 < 0) || decide (st ≤ x.1) || decide (x.2.1 < 0) || decide (st ≤ x.2.1) || decide (x.2.2 < 0) || decide (lb ≤ x.2.2)
def okAt (st lb : Int) (es : List Ed) (i : Nat) : Bool := match es[i]? with
  | some x => !badE st lb x && (decide (i = 0) || match es[i - 1]? with | some y => zeU y x | none => true)
  | none => true
def ckN (st lb : Int) (es : List Ed) : Nat → Bool
  | 0 => true
  | n + 1 => okAt st lb es (es.length - (n + 1)) && ckN st lb es n
abbrev ptr (b : Nat) : Value := .pointer (some ⟨b, 0, none⟩)
def erk (b : Bool) : Value := .int .i64 (if b then 0 else 2)
end Go.Ideal.J
namespace Go.Ideal.J
open Go Go.Ideal
def chk (st lb : Int) (es : List Ed) : Bool := !(decide (st < 1) || decide (60 < st) || decide (lb < 1) || decide (41 < lb) || decide (400 < es.length)) && ckN st lb es es.length
end Go.Ideal.J
namespace Go.Ideal.J
open Go Go.Ideal
end Go.Ideal.J
namespace Go.Ideal.J
open Go Go.Ideal
theorem min3 (a b c : Int) (h : H) : bltV h .min [.int .i64 a, .int .i64 b, .int .i64 c] = some (.int .i64 (min a (min b c)), h) := by
  show (zbT false (.int .i64 a) [.int .i64 b, .int .i64 c]).map (·, h) = _
  by_cases h1 : b < a
  · by_cases h2 : c < b
    · simp [zbT, zcm, h1, h2]; omega
    · simp [zbT, zcm, h1, h2]; omega
  · by_cases h2 : c < a
    · simp [zbT, zcm, h1, h2]; omega
    · simp [zbT, zcm, h1, h2]; omega
theorem max2 (a b : Int) (h : H) : bltV h .max [.int .i64 a, .int .i64 b] = some (.int .i64 (max a b), h) := by
  show (zbT true (.int .i64 a) [.int .i64 b]).map (·, h) = _
  by_cases h1 : a < b
  · simp [zbT, zcm, h1]; omega
  · simp [zbT, zcm, h1]; omega
theorem cmpT_less (y x : Ed) : (0 ≤ cmpT y x) ↔ zeU y x = false := by
  obtain ⟨y1, y2, y3⟩ := y
  obtain ⟨x1, x2, x3⟩ := x
  unfold cmpT zeU orV cmpE
  dsimp only
  repeat' split
  all_goals (simp; try omega)
theorem zcK (st lb : Int) (sl : Value) (es : List Ed) (hsz : es.length ≤ 9223372036854775806) (p : Nat) : ∀ (n i : Nat) (h : H), i + n = es.length → h.get p = some (.cells (gL st lb sl) 0) → p < h.next → Row h 3 sl (es.map edL) →
    ∃ h', lp (rI F) [p1, p30, p31, p32] zfX (kBlk 0 (kSeq (rI F) zgr [] (K_m_0 (rI F)))) [ptr p, sl, .int .i64 (es.length : Int), .int .i64 (i : Int)] h = some (.val (erk (ckN st lb es n)) h') ∧ Fr h h'
  | 0, i, h, hi, hp, hlt, hrow => by
    refine ⟨h, l_m_1 F _ _ _ _ _ ?_, .refl _⟩
    rw [s_m_1]
    have hi' : (es.length : Int) = i := by omega
    simp [hi', s_m_0, ckN, erk]
  | n + 1, i, h, hi, hp, hlt, hrow => by
    have hil : i < es.length := by omega
    have hx : (es.map edL)[i]? = some (edL es[i]) := by simp [hil]
    obtain ⟨b, o, cs, e, hv, hb, hg, ht⟩ := hrow.index hx
    have hlen : (es.map edL).length = es.length := List.length_map _
    have n0 : ¬ h.next = b := by omega
    have n1 : ¬ h.next = p := by omega
    have n3 : ¬ h.next + 1 = p := by omega
    have n4 : ¬ h.next + 1 + 1 = p := by omega
    have n5 : ¬ h.next + 1 + 1 + 1 = p := by omega
    have hsub : es.length - (n + 1) = i := by omega
    have hil' : (i : Int) < es.length := by omega
    have e0 : es[i]? = some es[i] := by simp [hil]
    generalize es[i] = x at *
    obtain ⟨base, c, hsl⟩ := hrow.len
    rw [hlen] at hsl
    have hbad : badE st lb x = true → ckN st lb es (n + 1) = false := by
      intro hb'
      show (okAt st lb es (es.length - (n + 1)) && _) = _
      rw [hsub]; unfold okAt; rw [e0]; simp [hb']
    have key : ∀ r, sh (rI F) zfX (K_m_1 (rI F)) (setL [p1, p30, p31, p32] [ptr p, sl, .int .i64 (es.length : Int), .int .i64 (i : Int)]) h = some r → lp (rI F) [p1, p30, p31, p32] zfX (kBlk 0 (kSeq (rI F) zgr [] (K_m_0 (rI F)))) [ptr p, sl, .int .i64 (es.length : Int), .int .i64 (i : Int)] h = some r := fun r hr => l_m_1 F _ _ _ _ _ hr
    have hp' := hp
    have hslc := hsl
    subst hsl
    by_cases h1 : min x.1 (min x.2.1 x.2.2) < 0
    · refine ⟨h.new (.cells (edL x) 0), key _ ?_, .new _ _⟩
      rw [s_m_1, hbad (by simp only [badE, Bool.or_eq_true, decide_eq_true_eq]; omega)]
      simp [hp, hil, hv, hg, ht, n0, n1, min3, max2, h1, erk]
    by_cases h2 : st ≤ max x.1 x.2.1
    · refine ⟨h.new (.cells (edL x) 0), key _ ?_, .new _ _⟩
      rw [s_m_1, hbad (by simp only [badE, Bool.or_eq_true, decide_eq_true_eq]; omega)]
      simp [hp, hil, hv, hg, ht, n0, n1, min3, max2, h1, h2, erk]
    by_cases h3 : lb ≤ x.2.2
    · refine ⟨h.new (.cells (edL x) 0), key _ ?_, .new _ _⟩
      rw [s_m_1, hbad (by simp only [badE, Bool.or_eq_true, decide_eq_true_eq]; omega)]
      simp [hp, hil, hv, hg, ht, n0, n1, min3, max2, h1, h2, h3, erk]
    have hgood : badE st lb x = false := by
      rw [Bool.eq_false_iff]; intro hb'; simp only [badE, Bool.or_eq_true, decide_eq_true_eq] at hb'; omega
    have w1 : -9223372036854775808 ≤ (i : Int) + 1 := by omega
    have w2 : (i : Int) + 1 ≤ 9223372036854775807 := by omega
    by_cases hi0 : i = 0
    · have hz : ¬ 0 < i := by omega
      obtain ⟨h', he, hf⟩ := zcK st lb _ es hsz p n (i + 1) (h.new (.cells (edL x) 0)) (by omega) (by simp [hp', n1]) (by simp; omega) (hrow.fr (.new _ _))
      refine ⟨h', key _ ?_, (Fr.new _ _).trans hf⟩
      have hck : ckN st lb es (n + 1) = ckN st lb es n := by
        show (okAt st lb es (es.length - (n + 1)) && _) = _
        rw [hsub]; unfold okAt; rw [e0]; simp [hgood, hi0]
      rw [s_m_1, hck]
      simp [hp, hil, hv, hg, ht, n0, n1, min3, max2, h1, h2, h3, hz, w1, w2]
      simpa using he
    · have hy : (es.map edL)[i - 1]? = some (edL es[i - 1]) := by simp [show i - 1 < es.length by omega]
      obtain ⟨b2, o2, cs2, e2, hv2, hb2, hg2, ht2⟩ := hrow.index hy
      have hye : es[i - 1]? = some es[i - 1] := by simp [show i - 1 < es.length by omega]
      generalize es[i - 1] = y at *
      have n2 : ¬ h.next = b2 := by omega
      have hpred : (i : Int) - 1 = ((i - 1 : Nat) : Int) := by omega
      have w3 : -9223372036854775808 ≤ (i : Int) - 1 := by omega
      have w4 : (i : Int) - 1 ≤ 9223372036854775807 := by omega
      have hsubv : ∀ h', vBin .sub .other (.int .i64 (i : Int)) (.int .i64 1) h' = some (.int .i64 ((i - 1 : Nat) : Int), h') := fun h' => by rw [z7 w3 w4, hpred]
      have hpos : 0 < i := by omega
      have hck : ckN st lb es (n + 1) = (zeU y x && ckN st lb es n) := by
        show (okAt st lb es (es.length - (n + 1)) && _) = _
        rw [hsub]; unfold okAt; rw [e0, hye]; simp [hgood, hi0]
      by_cases hl : zeU y x = true
      · have hc : ¬ 0 ≤ cmpT y x := fun hc => by rw [(cmpT_less y x).1 hc] at hl; cases hl
        obtain ⟨h', he, hf⟩ := zcK st lb _ es hsz p n (i + 1) ((((h.new (.cells (edL x) 0)).new (.cells (edL y) 0)).new (.cells (edL x) 0)).new (.cells [.int .i64 (cmpE y.1 x.1), .int .i64 (cmpE y.2.2 x.2.2), .int .i64 (cmpE y.2.1 x.2.1)] 0)) (by omega) (by simp [hp', n1, n3, n4, n5]) (by simp; omega) (hrow.fr ((((Fr.new _ _).newR _).newR _).newR _))
        refine ⟨h', key _ ?_, ((((Fr.new _ _).newR _).newR _).newR _).trans hf⟩
        rw [s_m_1, hck, hl, Bool.true_and]
        simp [hp, hil, hv, hg, ht, n0, n1, n2, min3, max2, h1, h2, h3, hpos, w1, w2, hsubv, hv2, hg2, ht2, zdS, hc]
        simpa using he
      · have hl : zeU y x = false := by simpa using hl
        have hc : 0 ≤ cmpT y x := (cmpT_less y x).2 hl
        refine ⟨_, key _ ?_, (((Fr.new h (.cells (edL x) 0)).newR (.cells (edL y) 0)).newR (.cells (edL x) 0)).newR (.cells [.int .i64 (cmpE y.1 x.1), .int .i64 (cmpE y.2.2 x.2.2), .int .i64 (cmpE y.2.1 x.2.1)] 0)⟩
        rw [s_m_1, hck, hl, Bool.false_and]
        simp [hp, hil, hv, hg, ht, n0, n1, n2, min3, max2, h1, h2, h3, hpos, w1, w2, hsubv, hv2, hg2, ht2, zdS, hc, erk]
theorem zcz (st lb : Int) (sl : Value) (es : List Ed) (h : H) (hrow : Row h 3 sl (es.map edL)) : ∃ h', zbv F (fnV n_m) [gV st lb sl] h = some (erk (chk st lb es), h') ∧ Fr h h' := by
  obtain ⟨base, c, hsl⟩ := hrow.len
  have hlen : (es.map edL).length = es.length := List.length_map _
  rw [hlen] at hsl
  by_cases h1 : st < 1
  · refine ⟨_, zbg F_m 1 (by decide) ?_, .new h (.cells (gL st lb sl) 0)⟩
    rw [s_m]; subst hsl
    simp [h1, chk, erk]
  by_cases h2 : 60 < st
  · refine ⟨_, zbg F_m 1 (by decide) ?_, .new h (.cells (gL st lb sl) 0)⟩
    rw [s_m]; subst hsl
    simp [h1, h2, chk, erk]
  by_cases h3 : lb < 1
  · refine ⟨_, zbg F_m 1 (by decide) ?_, .new h (.cells (gL st lb sl) 0)⟩
    rw [s_m]; subst hsl
    simp [h1, h2, h3, chk, erk]
  by_cases h4 : 41 < lb
  · refine ⟨_, zbg F_m 1 (by decide) ?_, .new h (.cells (gL st lb sl) 0)⟩
    rw [s_m]; subst hsl
    simp [h1, h2, h3, h4, chk, erk]
  by_cases h5 : 400 < es.length
  · refine ⟨_, zbg F_m 1 (by decide) ?_, .new h (.cells (gL st lb sl) 0)⟩
    rw [s_m]; subst hsl
    have h5' : (400 : Int) < es.length := by omega
    simp [h1, h2, h3, h4, h5, h5', chk, erk]
  obtain ⟨h', he, hf⟩ := zcK st lb sl es (by omega) h.next es.length 0 (h.new (.cells (gL st lb sl) 0)) (by omega) (by simp) (by simp) (hrow.fr (.new _ _))
  refine ⟨h', zbg F_m 1 (by decide) ?_, (Fr.new _ _).trans hf⟩
  rw [s_m]; subst hsl
  have h5' : ¬ (400 : Int) < es.length := by omega
  have hc : chk st lb es = ckN st lb es es.length := by simp [chk, h1, h2, h3, h4, h5]
  rw [hc]
  simp [h1, h2, h3, h4, h5, h5']
  simpa using he
end Go.Ideal.J
namespace Go.Ideal.J
open Go Go.Ideal
abbrev zbm (bs : List Bool) : List Value := bs.map .bool
abbrev slF (q n : Nat) : Value := .slice (some ⟨q, 0, none⟩) n n
def hit (x : Ed) (bs : List Bool) : Bool := decide (x.2.2 = 0) && (bs[x.1.toNat]?.getD false && !(bs[x.2.1.toNat]?.getD false))
def inB (st : Int) (es : List Ed) : Prop := ∀ x ∈ es, 0 ≤ x.1 ∧ x.1 < st ∧ 0 ≤ x.2.1 ∧ x.2.1 < st
end Go.Ideal.J
namespace Go.Ideal.J
open Go Go.Ideal
end Go.Ideal.J
namespace Go.Ideal.J
open Go Go.Ideal
theorem zhG : ∀ n, zu [Value.bool false] n = zbm (List.replicate n false)
  | 0 => rfl
  | n + 1 => by simp [zu, zhG n, List.replicate_succ]
theorem make_bools {n : Nat} (hn : n ≤ 1000) (h : H) : zbx 1 [.bool false] h (.int .i64 (n : Int)) (.int .i64 (n : Int)) = some (slF h.next n, h.new (.cells (zbm (List.replicate n false)) 0)) := by
  show (if (Nat.ble n n && Nat.ble (n * 1) 1073741824 && Nat.ble n 1073741824) = true then _ else none) = _
  rw [if_pos (by simp; omega), zhG]
inductive Sil (es : List Ed) (a : Nat) : Nat → Prop
  | refl : Sil es a a
  | step {x : Ed} (h : Sil es a x.1.toNat) (hx : x ∈ es) (h0 : x.2.2 = 0) : Sil es a x.2.1.toNat
end Go.Ideal.J
set_option maxRecDepth 10000
namespace Go.Ideal.J
open Go Go.Ideal
theorem conv_u64 {a : Int} {h : H} (h0 : 0 ≤ a) (h1 : a ≤ 9223372036854775807) : vConv .u64 (.int .i64 a) h = some (.int .u64 a, h) := by
  show some (Value.int .u64 (IntKind.wrap .u64 a), h) = _
  have : IntKind.wrap .u64 a = a := by
    unfold IntKind.wrap
    show (if (false && decide (a % (2 ^ 64 : Int) ≥ (2 ^ 63 : Int))) = true then a % (2 ^ 64 : Int) - (2 ^ 64 : Int) else a % (2 ^ 64 : Int)) = a
    simp; omega
  rw [this]
theorem conv_i64 {k : IntKind} {a : Int} {h : H} (h0 : -9223372036854775808 ≤ a) (h1 : a ≤ 9223372036854775807) : vConv .i64 (.int k a) h = some (.int .i64 a, h) := by
  show some (Value.int .i64 (IntKind.wrap .i64 a), h) = _
  have := zhe h0 h1
  rw [zhf] at this; rw [this]
theorem shr1 {ek : EK} {k : IntKind} {a : Int} {h : H} : vBin .shr ek (.int k a) (.int .u64 1) h = some (.int k (a / 2), h) := by
  have : (2 : Int) ^ (min (1 : Int).toNat k.bits) = 2 := by cases k <;> rfl
  show (if ltI 1 0 then none else some (Value.int k (a.fdiv (2 ^ (min (1 : Int).toNat k.bits))))).map (·, h) = _
  rw [this]
  have h2 : ltI 1 0 = false := rfl
  rw [h2, Int.fdiv_eq_ediv_of_nonneg _ (by omega)]; rfl
theorem zd2 (x : Ed) (a : Int) (h : H) : zbv F (fnV n_O) [edV x, .int .i64 a] h = some (.int .i64 (cmpE x.1 a), h.new (.cells (edL x) 0)) := by
  refine zbg F_O 2 (by decide) ?_
  rw [s_O]
  simp [zjw]
theorem cmpE_neg (a b : Int) : cmpE a b < 0 ↔ a < b := by unfold cmpE; split <;> (try split) <;> omega
structure Cut (es : List Ed) (a : Int) (at_ : Nat) : Prop where
  le : at_ ≤ es.length
  lo : ∀ k x, es[k]? = some x → k < at_ → x.1 < a
  hi : ∀ k x, es[k]? = some x → at_ ≤ k → a ≤ x.1
def IsAt (n : Nat) (v : Value) : Prop := ∃ b : Bool, v = .tuple #[.int .i64 (n : Int), .bool b]
theorem bs_loop (es : List Ed) (hsz : es.length ≤ 1000) (a : Int) (at_ : Nat) (hc : Cut es a at_) (sl : Value) (h0 : H) (hrow0 : Row h0 3 sl (es.map edL)) : ∀ (n i j : Nat) (h : H), j - i = n → i ≤ at_ → at_ ≤ j → j ≤ es.length → Fr h0 h →
    OkV (sh (rI F) zgt (K_a_1 (rI F)) (setL [p0, p1, p2, p8, p9, p10] [sl, .int .i64 a, fnV n_O, .int .i64 (es.length : Int), .int .i64 (i : Int), .int .i64 (j : Int)]) h)
      fun v h' => IsAt at_ v ∧ Fr h0 h' := by
  intro n
  induction n using Nat.strongRecOn with
  | _ n ih =>
    intro i j h hn hi hj hl hf
    rw [s_a_1]
    by_cases hij : i < j
    · obtain ⟨m, em⟩ : ∃ m, m = (i + j) / 2 := ⟨_, rfl⟩
      have hm : m < es.length := by omega
      have hx : (es.map edL)[m]? = some (edL es[m]) := by simp [hm]
      obtain ⟨b, o, cs, e, hv, hb, hg, ht⟩ := (hrow0.fr hf).index hx
      have hlo := hc.lo m _ (List.getElem?_eq_getElem hm)
      have hhi := hc.hi m _ (List.getElem?_eq_getElem hm)
      have e1 : ((i : Int) + (j : Int)) / 2 = (m : Int) := by omega
      generalize es[m] = x at *
      by_cases hxa : x.1 < a
      · have hxa' : cmpE x.1 a < 0 := (cmpE_neg _ _).2 hxa
        have := ih (j - (m + 1)) (by omega) (m + 1) j (h.new (.cells (edL x) 0)) rfl (by have := fun h => hhi h; omega) hj hl (hf.newR _)
        refine OkV.eq (this.lp (l_a_1 F _ _ _ _ _ _ _)) ?_
        simp (disch := omega) [hij, conv_u64, conv_i64, shr1, e1, hv, hg, ht, zd2, hxa', zW]
      · have hxa' : ¬ cmpE x.1 a < 0 := fun h => hxa ((cmpE_neg _ _).1 h)
        have := ih (m - i) (by omega) i m (h.new (.cells (edL x) 0)) rfl hi (by have := fun h => hlo h; omega) (by omega) (hf.newR _)
        refine OkV.eq (this.lp (l_a_1 F _ _ _ _ _ _ _)) ?_
        simp (disch := omega) [hij, conv_u64, conv_i64, shr1, e1, hv, hg, ht, zd2, hxa', zW]
    · have e : at_ = i := by omega
      subst e
      have e2 : j = at_ := by omega
      subst e2
      simp (disch := omega) [hij]
      rw [s_a_0]
      by_cases hlt : j < es.length
      · have hx : (es.map edL)[j]? = some (edL es[j]) := by simp [hlt]
        obtain ⟨b, o, cs, e, hv, hb, hg, ht⟩ := (hrow0.fr hf).index hx
        refine OkV.eq (OkV.val (v := .tuple #[.int .i64 (j : Int), .bool (decide (cmpE es[j].1 a = 0))]) (h := h.new (.cells (edL es[j]) 0)) ⟨⟨_, rfl⟩, hf.newR _⟩) ?_
        simp (disch := omega) [hlt, hv, hg, ht, zd2]
      · refine OkV.eq (OkV.val (v := .tuple #[.int .i64 (j : Int), .bool false]) (h := h) ⟨⟨_, rfl⟩, hf⟩) ?_
        simp (disch := omega) [hlt]
end Go.Ideal.J
namespace Go.Ideal.J
open Go Go.Ideal
theorem bs_ok (es : List Ed) (hsz : es.length ≤ 1000) (a : Int) (at_ : Nat) (hc : Cut es a at_) (sl : Value) (h : H) (hrow : Row h 3 sl (es.map edL)) :
    Ret F (fnV n_a) [sl, .int .i64 a, fnV n_O] h fun v h' => IsAt at_ v ∧ Fr h h' := by
  refine Ret.fn F_a 3 (by decide) ?_
  rw [s_a]
  have := bs_loop es hsz a at_ hc sl h hrow es.length 0 es.length h (by omega) (by omega) hc.le (by omega) (.refl _)
  obtain ⟨base, c, hsl⟩ := hrow.len
  rw [List.length_map] at hsl
  refine OkV.eq (this.lp (l_a_1 F _ _ _ _ _ _ _)) ?_
  subst hsl
  simp
end Go.Ideal.J
namespace Go.Ideal.J
open Go Go.Ideal
def outs (es : List Ed) (a : Int) : List Ed := es.filter fun x => decide (x.1 = a)
def zY (es : List Ed) : Prop := es.Pairwise fun x y => x.1 ≤ y.1
def below (es : List Ed) (a : Int) : Nat := (es.filter fun x => decide (x.1 < a)).length
theorem zcY (a : Int) : ∀ {es : List Ed}, zY es → es = (es.filter fun x => decide (x.1 < a)) ++ outs es a ++ es.filter fun x => decide (a < x.1)
  | [], _ => rfl
  | x :: es, h => by
    obtain ⟨h1, h2⟩ := List.pairwise_cons.1 h
    have ih := zcY a h2
    rcases Int.lt_trichotomy x.1 a with c | c | c
    · have e1 : ¬ x.1 = a := by omega
      have e2 : ¬ a < x.1 := by omega
      simp only [outs, List.filter_cons, c, e1, e2, decide_true, decide_false, if_true, Bool.false_eq_true, if_false, List.cons_append] at ih ⊢
      rw [← ih]
    · have e1 : ¬ x.1 < a := by omega
      have e2 : ¬ a < x.1 := by omega
      have z : (es.filter fun x => decide (x.1 < a)) = [] := by
        rw [List.filter_eq_nil_iff]; intro y hy; have := h1 y hy; simp; omega
      simp only [outs, List.filter_cons, c, decide_true, if_true] at ih ⊢
      rw [z, List.nil_append] at ih
      simp only [Int.lt_irrefl, decide_false, Bool.false_eq_true, if_false, z, List.nil_append, List.cons_append]
      rw [← ih]
    · have e1 : ¬ x.1 < a := by omega
      have e2 : ¬ x.1 = a := by omega
      have z : (es.filter fun x => decide (x.1 < a)) = [] := by
        rw [List.filter_eq_nil_iff]; intro y hy; have := h1 y hy; simp; omega
      have z2 : (es.filter fun x => decide (x.1 = a)) = [] := by
        rw [List.filter_eq_nil_iff]; intro y hy; have := h1 y hy; simp; omega
      have z3 : (es.filter fun x => decide (a < x.1)) = es := by
        rw [List.filter_eq_self]; intro y hy; have := h1 y hy; simp; omega
      simp only [outs, List.filter_cons, e1, e2, c, decide_true, decide_false, if_true, Bool.false_eq_true, if_false, z, z2, z3, List.nil_append]
theorem cut_of {es : List Ed} (h : zY es) (a : Int) : Cut es a (below es a) := by
  refine ⟨List.length_filter_le .., fun k x hk hl => ?_, fun k x hk hl => ?_⟩
  · rw [zcY a h, List.append_assoc, List.getElem?_append_left hl] at hk
    simpa using (List.mem_filter.1 (List.mem_of_getElem? hk)).2
  · rw [zcY a h, List.append_assoc, List.getElem?_append_right hl] at hk
    have := List.mem_of_getElem? hk
    rcases List.mem_append.1 this with hm | hm
    · have := (List.mem_filter.1 hm).2; simp at this; omega
    · have := (List.mem_filter.1 hm).2; simp at this; omega
theorem zjv {es : List Ed} (h : zY es) (a : Int) : es.drop (below es a) = outs es a ++ es.filter fun x => decide (a < x.1) := by
  have e := zcY a h
  have : es.drop (below es a) = ((es.filter fun x => decide (x.1 < a)) ++ (outs es a ++ es.filter fun x => decide (a < x.1))).drop (es.filter fun x => decide (x.1 < a)).length := by
    rw [← List.append_assoc, ← e]; rfl
  rw [this, List.drop_left]
def YOk (F : FuncId → Option zw) (y : Value) (l : List Value) (M : Nat → Prop) (n0 : Nat) (Inv : Nat → H → Prop) (Stop : H → Prop) : Prop :=
  ∀ i x h, l[i]? = some x → Inv i h → n0 ≤ h.next → Ret F y [x] h fun v h' => FrD M h h' ∧ ((v = .bool true ∧ Inv (i + 1) h') ∨ (v = .bool false ∧ Stop h'))
theorem steps_loop (l r : List Ed) (a : Int) (hl : ∀ x ∈ l, x.1 = a) (hr : ∀ x ∈ r, x.1 ≠ a) (hsz : (l ++ r).length ≤ 1000) (y : Value) (sl' : Value) (pf : Nat) (h0 : H) {M : Nat → Prop} (hrow : Row h0 3 sl' ((l ++ r).map edL))
    (hm1 : ¬ M pf) (hm2 : ∀ b o n c, sl' = .slice (some ⟨b, o, none⟩) n c → ¬ M b) (hpf : pf < h0.next) (hgf : h0.get pf = some (.cells [.int .i64 a] 0)) (Inv : Nat → H → Prop) (Stop : H → Prop) (n0 : Nat) (hn0 : n0 ≤ h0.next)
    (hst : ∀ i h1 h2, Inv i h1 → Fr h1 h2 → Inv i h2) (hy : YOk F y (l.map edV) M n0 Inv Stop) {P : Value → H → Prop} (hP : ∀ h', FrD M h0 h' → (Inv l.length h' ∨ Stop h') → P (.tuple #[]) h') :
    ∀ (n i : Nat) (h : H), i + n = l.length → Inv i h → FrD M h0 h →
    OkV (sh (rI F) zig (K_x_0 (rI F)) (setL [p0, p2, p18, p19, p20] [y, ptr pf, sl', .int .i64 ((l ++ r).length : Int), .int .i64 (i : Int)]) h) P := by
  intro n
  obtain ⟨N, hN⟩ : ∃ N, (l ++ r).length = N := ⟨_, rfl⟩
  rw [hN] at hsz ⊢
  induction n with
  | zero =>
    intro i h hi hI hf
    rw [s_x_0]
    have hi : i = l.length := by omega
    subst hi
    by_cases hlt : l.length < N
    · have hlt' : l.length < (l ++ r).length := by omega
      have h2 : (l ++ r)[l.length]? = some (l ++ r)[l.length] := List.getElem?_eq_getElem hlt'
      have hx : ((l ++ r).map edL)[l.length]? = some (edL (l ++ r)[l.length]) := by rw [List.getElem?_map, h2]; rfl
      rw [List.getElem?_append_right (Nat.le_refl _)] at h2
      have hne := hr _ (List.mem_of_getElem? h2)
      obtain ⟨b, o, cs, e, hv, hb, hg, ht⟩ := (hrow.frD hf hm2).index hx
      generalize (l ++ r)[l.length] = x at *
      have hpf' : h.get pf = some (.cells [.int .i64 a] 0) := (hf.get _ hpf hm1).trans hgf
      have hpl : pf < h.next := Nat.lt_of_lt_of_le hpf hf.next
      refine OkV.eq (OkV.val (hP (h.new (.cells (edL x) 0)) (hf.new _) (.inl (hst _ _ _ hI (.new _ _))))) ?_
      simp (disch := omega) [hlt, hv, hg, ht, hpf', hne, zf]
    · refine OkV.eq (OkV.val (hP h hf (.inl hI))) ?_
      simp (disch := omega) [hlt, zf]
  | succ n ih =>
    intro i h hi hI hf
    rw [s_x_0]
    have hil : i < l.length := by omega
    have hlt : i < N := by rw [← hN, List.length_append]; omega
    have hx : ((l ++ r).map edL)[i]? = some (edL l[i]) := by
      rw [List.getElem?_map, List.getElem?_append_left hil, List.getElem?_eq_getElem hil]; rfl
    have hmem : l[i].1 = a := hl _ (List.getElem_mem hil)
    have hxv : (l.map edV)[i]? = some (edV l[i]) := by simp [hil]
    obtain ⟨b, o, cs, e, hv, hb, hg, ht⟩ := (hrow.frD hf hm2).index hx
    generalize l[i] = x at *
    have hpf' : h.get pf = some (.cells [.int .i64 a] 0) := (hf.get _ hpf hm1).trans hgf
    have hpl : pf < h.next := Nat.lt_of_lt_of_le hpf hf.next
    have hc := hy i _ (h.new (.cells (edL x) 0)) hxv (hst _ _ _ hI (.new _ _)) (by have := hf.next; simp; omega)
    obtain ⟨x1, x2, x3⟩ := x
    obtain rfl : x1 = a := hmem
    simp (disch := omega) [hlt, hv, hg, ht, hpf']
    refine OkV.call hc ?_
    rintro v h' ⟨hf', hv'⟩
    rcases hv' with ⟨rfl, hI'⟩ | ⟨rfl, hS⟩
    · have := ih (i + 1) h' (by omega) hI' ((hf.new _).trans (hf'.mono fun _ _ h => h))
      refine OkV.eq (this.lp (l_x_0 F _ _ _ _ _ _)) ?_
      simp (disch := omega) [zW]
    · refine OkV.eq (OkV.val (hP h' ((hf.new _).trans hf') (.inr hS))) ?_
      simp [zf]
end Go.Ideal.J
namespace Go.Ideal.J
open Go Go.Ideal
abbrev stepsV (pg pf : Nat) : Value := .func (.func n_x) ⟨[]⟩ ⟨[ptr pg, ptr pf]⟩
theorem steps_ok (g : Value) (a : Value) (h : H) : zbv F (fnV n_y) [g, a] h = some (stepsV h.next (h.next + 1), (h.new (.cells (zl g) 0)).new (.cells (zl a) 0)) := by
  refine zbg F_y 2 (by decide) ?_
  rw [s_y]
  simp
theorem zhv (es : List Ed) (hs : zY es) (hsz : es.length ≤ 1000) (a st lb : Int) (y : Value) (sl : Value) (pg pf : Nat) (h0 : H) {M : Nat → Prop} (hrow : Row h0 3 sl (es.map edL))
    (hm0 : ¬ M pg) (hm1 : ¬ M pf) (hm2 : ∀ b o n c, sl = .slice (some ⟨b, o, none⟩) n c → ¬ M b) (hpg : pg < h0.next) (hgg : h0.get pg = some (.cells (gL st lb sl) 0)) (hpf : pf < h0.next) (hgf : h0.get pf = some (.cells [.int .i64 a] 0)) (Inv : Nat → H → Prop) (Stop : H → Prop) (n0 : Nat) (hn0 : n0 ≤ h0.next)
    (hst : ∀ i h1 h2, Inv i h1 → Fr h1 h2 → Inv i h2) (hy : YOk F y ((outs es a).map edV) M n0 Inv Stop) (hI : Inv 0 h0) {P : Value → H → Prop} (hP : ∀ h', FrD M h0 h' → (Inv (outs es a).length h' ∨ Stop h') → P (.tuple #[]) h') :
    Ret F (stepsV pg pf) [y] h0 P := by
  obtain ⟨base0, c0, hsl0⟩ := hrow.lenM
  subst hsl0
  refine Ret.clo F_x 3 (by decide) ?_
  show OkV (zt (rI F) 3 f_x [y, ptr pg, ptr pf] h0) P
  rw [s_x]
  simp (disch := omega) [hgg, hgf]
  refine OkV.call (bs_ok es hsz a (below es a) (cut_of hs a) _ h0 hrow) ?_
  rintro v h' ⟨⟨b, rfl⟩, hf⟩
  have hle : below es a ≤ (es.map edL).length := by rw [List.length_map]; exact (cut_of hs a).le
  have hgg' : h'.get pg = some (.cells (gL st lb (.slice base0 es.length c0)) 0) := (hf.get _ hpg).trans hgg
  have hgf' : h'.get pf = some (.cells [.int .i64 a] 0) := (hf.get _ hpf).trans hgf
  obtain ⟨sl', hsl, hrow', hfrom⟩ := (hrow.fr hf).drop hle
  rw [← List.map_drop, zjv hs a] at hrow'
  have hsub : ∀ b o n c, sl' = .slice (some ⟨b, o, none⟩) n c → ¬ M b := by
    intro b o n c e
    obtain ⟨_, _, _, e1⟩ := hfrom _ _ _ _ e
    exact hm2 _ _ _ _ e1
  obtain ⟨base, cc, hsl2⟩ := hrow'.lenM
  have := steps_loop (outs es a) (es.filter fun x => decide (a < x.1)) a (fun x hx => by simpa using (List.mem_filter.1 hx).2) (fun x hx => by have := (List.mem_filter.1 hx).2; simp at this; omega) (by rw [← zjv hs a, List.length_drop]; omega) y sl' pf h' hrow' hm1 hsub (Nat.lt_of_lt_of_le hpf hf.next) hgf' Inv Stop n0 (Nat.le_trans hn0 hf.next) hst hy
    (P := P) (fun h'' hf2 hv => hP h'' ⟨Nat.le_trans hf.next hf2.next, fun i hi hm => (hf2.get i (Nat.lt_of_lt_of_le hi hf.next) hm).trans (hf.get i hi)⟩ hv) (outs es a).length 0 h' (by omega) (hst _ _ _ hI hf) (.refl _ _)
  refine OkV.eq (this.lp (l_x_0 F _ _ _ _ _ _)) ?_
  have hsl3 := hsl h' (Nat.le_refl _) (fun _ _ => rfl)
  subst hsl2
  simp (disch := omega) [hgg', hsl3]
end Go.Ideal.J
namespace Go.Ideal.J
open Go Go.Ideal
abbrev leadsV (pg pf pl : Nat) : Value := .func (.func n_B) ⟨[]⟩ ⟨[ptr pg, ptr pf, ptr pl]⟩
theorem zhi (g a l : Value) (h : H) : zbv F (fnV n_v) [g, a, l] h = some (leadsV h.next (h.next + 1) (h.next + 1 + 1), ((h.new (.cells (zl g) 0)).new (.cells (zl a) 0)).new (.cells (zl l) 0)) := by
  refine zbg F_v 3 (by decide) ?_
  rw [s_v]
  simp
def tos (es : List Ed) (a lab : Int) : List Int := ((outs es a).filter fun x => decide (x.2.2 = lab)).map fun x => x.2.1
def cnt (l : List Ed) (lab : Int) (i : Nat) : Nat := ((l.take i).filter fun x => decide (x.2.2 = lab)).length
theorem cnt_succ {l : List Ed} {lab : Int} {i : Nat} {x : Ed} (h : l[i]? = some x) : cnt l lab (i + 1) = cnt l lab i + if x.2.2 = lab then 1 else 0 := by
  unfold cnt
  rw [List.take_add_one, h]
  simp only [Option.toList_some, List.filter_append, List.length_append]
  congr 1
  by_cases e : x.2.2 = lab <;> simp [e]
theorem cnt_get {l : List Ed} {lab : Int} {i : Nat} {x : Ed} (h : l[i]? = some x) (e : x.2.2 = lab) : (l.filter fun x => decide (x.2.2 = lab))[cnt l lab i]? = some x := by
  have hl : i < l.length := by
    rcases Nat.lt_or_ge i l.length with h' | h'
    · exact h'
    · rw [List.getElem?_eq_none h'] at h; cases h
  have hd : l.drop i = x :: l.drop (i + 1) := by
    rw [List.drop_eq_getElem_cons hl]
    rw [List.getElem?_eq_getElem hl] at h; cases h; rfl
  have : l.filter (fun x => decide (x.2.2 = lab)) = (l.take i).filter (fun x => decide (x.2.2 = lab)) ++ (l.drop i).filter (fun x => decide (x.2.2 = lab)) := by
    rw [← List.filter_append, List.take_append_drop]
  rw [this, hd]
  unfold cnt
  rw [List.getElem?_append_right (Nat.le_refl _)]
  simp [e]
theorem zfM (es : List Ed) (hs : zY es) (hsz : es.length ≤ 1000) (a lab st lb : Int) (y : Value) (hyc : zX y = true) (hyi : zbn y = true) (hyl : zl y = [y]) (sl : Value) (pg pf pl : Nat) (h0 : H) {M : Nat → Prop} (hM : ∀ i, M i → i < h0.next ∨ h0.next + 4 ≤ i) (hrow : Row h0 3 sl (es.map edL))
    (hm0 : ¬ M pg) (hm1 : ¬ M pf) (hm3 : ¬ M pl) (hm2 : ∀ b o n c, sl = .slice (some ⟨b, o, none⟩) n c → ¬ M b) (hpg : pg < h0.next) (hgg : h0.get pg = some (.cells (gL st lb sl) 0)) (hpf : pf < h0.next) (hgf : h0.get pf = some (.cells [.int .i64 a] 0)) (hpl : pl < h0.next) (hgl : h0.get pl = some (.cells [.int .i64 lab] 0)) (Inv : Nat → H → Prop) (Stop : H → Prop)
    (hst : ∀ i h1 h2, Inv i h1 → FrD (fun j => j = h0.next + 3) h1 h2 → Inv i h2) (hstS : ∀ h1 h2, Stop h1 → FrD (fun j => j = h0.next + 3) h1 h2 → Stop h2)
    (hy : YOk F y ((tos es a lab).map fun t => .int .i64 t) M (h0.next + 4) Inv Stop) (hI : Inv 0 h0) {P : Value → H → Prop} (hP : ∀ h', FrD M h0 h' → (Inv (tos es a lab).length h' ∨ Stop h') → P (.tuple #[]) h') :
    Ret F (leadsV pg pf pl) [y] h0 P := by
  refine Ret.clo F_B 4 (by decide) ?_
  show OkV (zt (rI F) 4 f_B [y, ptr pg, ptr pf, ptr pl] h0) P
  obtain ⟨base0, c0, hsl0⟩ := hrow.lenM
  subst hsl0
  rw [s_B]
  simp (disch := omega) [hgg, hgf, steps_ok, hyl]
  obtain ⟨l, hl⟩ : ∃ l, l = h0.next + 1 + 1 + 1 := ⟨_, rfl⟩
  obtain ⟨hh, ehh⟩ : ∃ hh, hh = ((((h0.new (.cells [y] 0)).new (.cells [.int .i64 st, .int .i64 lb, .slice base0 es.length c0] 0)).new (.cells [.int .i64 a] 0)).new (.loop .ready none (setL [p3, p4] [ptr pl, ptr h0.next]) zd8)) := ⟨_, rfl⟩
  rw [← hl, ← ehh]
  have hf0 : Fr h0 hh := by rw [ehh]; exact (((Fr.new _ _).newR _).newR _).newR _
  have hnx : hh.next = h0.next + 4 := by rw [ehh]; simp
  have gl : hh.get l = some (.loop .ready none (setL [p3, p4] [ptr pl, ptr h0.next]) zd8) := by rw [ehh]; simp (disch := omega) [hl]
  have gy : hh.get h0.next = some (.cells [y] 0) := by rw [ehh]; simp (disch := omega)
  have gp : hh.get pl = some (.cells [.int .i64 lab] 0) := (hf0.get _ hpl).trans hgl
  have gg : hh.get (h0.next + 1) = some (.cells (gL st lb (.slice base0 es.length c0)) 0) := by rw [ehh]; simp (disch := omega)
  have gf : hh.get (h0.next + 1 + 1) = some (.cells [.int .i64 a] 0) := by rw [ehh]; simp (disch := omega)
  have nM : ∀ j, h0.next ≤ j → j < h0.next + 4 → ¬ M j := fun j hj hk hm => by have := hM j hm; omega
  have hstL : ∀ {h1 h2 : H}, FrD (fun j => j = l) h1 h2 → FrD (fun j => j = h0.next + 3) h1 h2 := fun h => h.mono fun i _ e => by omega
  refine OkV.call (zhv es hs hsz a st lb (.func (.yield l) #[] #[]) (.slice base0 es.length c0) (h0.next + 1) (h0.next + 1 + 1) hh (M := fun j => M j ∨ j = l) (hrow.fr hf0) ?_ ?_ ?_ (by omega) gg (by omega) gf
    (fun i h => Inv (cnt (outs es a) lab i) h ∧ h.get l = some (.loop .ready none (setL [p3, p4] [ptr pl, ptr h0.next]) zd8) ∧ h.get pl = some (.cells [.int .i64 lab] 0) ∧ h.get h0.next = some (.cells [y] 0) ∧ hh.next ≤ h.next)
    (fun h => Stop h ∧ h.get l = some (.loop .done (some .ret) (setL [p3, p4] [ptr pl, ptr h0.next]) zd8)) hh.next (Nat.le_refl _) ?_ ?_ ?_
    (P := fun _ h' => FrD (fun j => M j ∨ j = l) hh h' ∧ ((Inv (tos es a lab).length h' ∧ h'.get l = some (.loop .ready none (setL [p3, p4] [ptr pl, ptr h0.next]) zd8)) ∨ (Stop h' ∧ h'.get l = some (.loop .done (some .ret) (setL [p3, p4] [ptr pl, ptr h0.next]) zd8)))) ?_) ?_
  · rintro (h | h)
    · exact nM _ (by omega) (by omega) h
    · omega
  · rintro (h | h)
    · exact nM _ (by omega) (by omega) h
    · omega
  · rintro b o n c e (h | h)
    · exact hm2 b o n c e h
    · subst h
      have := hrow.lt e
      omega
  · rintro i h1 h2 ⟨i1, i2, i3, i4, i5⟩ hf
    refine ⟨hst _ _ _ i1 hf.D, (hf.get _ (by omega)).trans i2, (hf.get _ (by omega)).trans i3, (hf.get _ (by omega)).trans i4, Nat.le_trans i5 hf.next⟩
  · rintro i v h1 hv ⟨i1, i2, i3, i4, i5⟩ hn
    rw [List.getElem?_map] at hv
    obtain ⟨x, hx, rfl⟩ := Option.map_eq_some_iff.1 hv
    refine Ret.round i2 ?_
    rw [s_B_0]
    simp (disch := omega)
    rw [zdL (by rw [zbl (by omega)]; exact i2), s_B_1]
    simp (disch := omega) [i3, i4]
    by_cases e : x.2.2 = lab
    · have hc := cnt_get hx e
      have hc' : ((tos es a lab).map fun t => Value.int .i64 t)[cnt (outs es a) lab i]? = some (.int .i64 x.2.1) := by
        unfold tos; rw [List.getElem?_map, List.getElem?_map, hc]; rfl
      have := hy _ _ ((h1.new (.cells (edL x) 0)).put l (.loop .busy none (setL [p3, p4] [ptr pl, ptr h0.next]) zd8)) hc' (hst _ _ _ i1 (hstL (((FrD.refl _ _).new _).put (D := fun j => j = l) (.inr rfl) _))) (by simp; omega)
      obtain ⟨x1, x2, x3⟩ := x
      obtain rfl : x3 = lab := e
      have hcs := cnt_succ (lab := x3) hx
      rw [if_pos rfl] at hcs
      simp (disch := omega)
      refine OkV.call this ?_
      rintro v h' ⟨hf, hv'⟩
      have hfl : FrD (fun j => M j ∨ j = l) h1 h' := (((FrD.refl _ _).new _).put (D := fun j => M j ∨ j = l) (.inr (.inr rfl)) _).trans (hf.mono fun _ _ h => .inl h)
      have gl' : h'.get l = some (.loop .busy none (setL [p3, p4] [ptr pl, ptr h0.next]) zd8) := by
        rw [hf.get _ (by simp; omega) (nM _ (by omega) (by omega)), zx rfl]
      have gp' : h'.get pl = some (.cells [.int .i64 x3] 0) := (hfl.get _ (by omega) (fun h => h.elim hm3 (by omega))).trans i3
      have gy' : h'.get h0.next = some (.cells [y] 0) := (hfl.get _ (by omega) (fun h => h.elim (nM _ (Nat.le_refl _) (by omega)) (by omega))).trans i4
      have hn' := hfl.next
      rcases hv' with ⟨rfl, hI'⟩ | ⟨rfl, hS⟩
      · simp [zc4 gl']
        refine OkV.val ⟨hfl.put (.inr (.inr rfl)) _, .inl ⟨rfl, ?_, by simp, ?_, ?_, by simp; omega⟩⟩
        · rw [hcs]; exact hst _ _ _ hI' (hstL ((FrD.refl _ _).put (D := fun j => j = l) (.inr rfl) _))
        · rw [zm (by omega)]; exact gp'
        · rw [zm (by omega)]; exact gy'
      · simp [zfT gl']
        exact OkV.val ⟨hfl.put (.inr (.inr rfl)) _, .inr ⟨rfl, hstS _ _ hS (hstL ((FrD.refl _ _).put (D := fun j => j = l) (.inr rfl) _)), by simp⟩⟩
    · have hcs := cnt_succ (lab := lab) hx
      rw [if_neg e] at hcs
      have gl' : ((h1.new (.cells (edL x) 0)).put l (.loop .busy none (setL [p3, p4] [ptr pl, ptr h0.next]) zd8)).get l = some (.loop .busy none (setL [p3, p4] [ptr pl, ptr h0.next]) zd8) := zx rfl
      simp (disch := omega) [e, zc4 gl', put_put]
      have hfl : FrD (fun j => M j ∨ j = l) h1 ((h1.new (.cells (edL x) 0)).put l (.loop .ready none (setL [p3, p4] [ptr pl, ptr h0.next]) zd8)) := ((FrD.refl _ _).new _).put (.inr (.inr rfl)) _
      refine OkV.val ⟨hfl, .inl ⟨rfl, ?_, by simp, ?_, ?_, by simp; omega⟩⟩
      · rw [hcs]; exact hst _ _ _ i1 (hstL (((FrD.refl _ _).new _).put (D := fun j => j = l) (.inr rfl) _))
      · rw [zm (by omega), zbl (by omega)]; exact i3
      · rw [zm (by omega), zbl (by omega)]; exact i4
  · exact ⟨hst _ _ _ (by simpa [cnt] using hI) hf0.D, gl, gp, gy, Nat.le_refl _⟩
  · intro h' hf hv
    have ec : cnt (outs es a) lab (outs es a).length = (tos es a lab).length := by unfold cnt tos; simp
    refine ⟨hf, ?_⟩
    rcases hv with ⟨i1, i2, _⟩ | ⟨i1, i2⟩
    · exact .inl ⟨ec ▸ i1, i2⟩
    · exact .inr ⟨i1, i2⟩
  · rintro v h' ⟨hf, hv⟩
    have hfM : ∀ {o : IObj}, FrD M h0 (h'.put l o) := fun {o} => ⟨Nat.le_trans hf0.next hf.next, fun i hi hm => by
      rw [zm (by omega)]; exact (hf.get i (by omega) (fun h => h.elim hm (by omega))).trans (hf0.get i hi)⟩
    rcases hv with ⟨i1, i2⟩ | ⟨i1, i2⟩
    · rw [zcH i2]
      exact OkV.val (hP _ hfM (.inl (hst _ _ _ i1 (hstL ((FrD.refl _ _).put (D := fun j => j = l) (.inr rfl) _)))))
    · rw [rgP_ret i2]
      exact OkV.val (hP _ hfM (.inr (hstS _ _ i1 (hstL ((FrD.refl _ _).put (D := fun j => j = l) (.inr rfl) _)))))
end Go.Ideal.J
namespace Go.Ideal.J
open Go Go.Ideal
end Go.Ideal.J
namespace Go.Ideal.J
open Go Go.Ideal
end Go.Ideal.J
namespace Go.Ideal.J
open Go Go.Ideal
theorem zc9 {es : List Ed} {a lab t : Int} : t ∈ tos es a lab ↔ ∃ x ∈ es, x.1 = a ∧ x.2.2 = lab ∧ x.2.1 = t := by
  unfold tos outs
  constructor
  · intro h
    obtain ⟨x, hx, rfl⟩ := List.mem_map.1 h
    obtain ⟨h1, h2⟩ := List.mem_filter.1 hx
    obtain ⟨h3, h4⟩ := List.mem_filter.1 h1
    exact ⟨x, h3, by simpa using h4, by simpa using h2, rfl⟩
  · rintro ⟨x, hx, h1, h2, rfl⟩
    exact List.mem_map.2 ⟨x, List.mem_filter.2 ⟨List.mem_filter.2 ⟨hx, by simpa using h1⟩, by simpa using h2⟩, rfl⟩
end Go.Ideal.J
namespace Go.Ideal.J
open Go Go.Ideal
end Go.Ideal.J
namespace Go.Ideal.J
open Go Go.Ideal
structure ziu (h : H) (B : Nat) (bl : List Nat) (lo hi N : Nat) (T : Nat → Nat → Prop) : Prop where
  get : h.get B = some (.cells (bl.map fun b => slF b N) 0)
  nd : bl.Nodup
  bnd : ∀ b ∈ bl, lo ≤ b ∧ b < hi
  row : ∀ (l b : Nat), bl[l]? = some b → ∃ bs : List Bool, h.get b = some (.cells (zbm bs) 0) ∧ bs.length = N ∧ ∀ c, bs[c]? = some true ↔ c < N ∧ T l c
  ltB : B < h.next
  out : B < lo
  hin : hi ≤ h.next
theorem ziu.fr {D : Nat → Prop} {h h' : H} {B : Nat} {bl : List Nat} {lo hi N : Nat} {T : Nat → Nat → Prop} (t : ziu h B bl lo hi N T) (hf : FrD D h h') (hB : ¬ D B) (hb : ∀ b, lo ≤ b → b < hi → ¬ D b) : ziu h' B bl lo hi N T where
  get := (hf.get _ t.ltB hB).trans t.get
  nd := t.nd
  bnd := t.bnd
  row := fun l b e => by
    obtain ⟨bs, h1, h2, h3⟩ := t.row l b e
    have := t.bnd b (List.mem_of_getElem? e)
    have := t.hin
    exact ⟨bs, (hf.get _ (by omega) (hb b (by omega) (by omega))).trans h1, h2, h3⟩
  ltB := Nat.lt_of_lt_of_le t.ltB hf.next
  out := t.out
  hin := Nat.le_trans t.hin hf.next
theorem ziu.set {h : H} {B : Nat} {bl : List Nat} {lo hi N : Nat} {T : Nat → Nat → Prop} (t : ziu h B bl lo hi N T) {l c b : Nat} (hl : bl[l]? = some b) (hc : c < N) {bs : List Bool} (hg : h.get b = some (.cells (zbm bs) 0)) : ziu (h.put b (.cells (zbm (bs.set c true)) 0)) B bl lo hi N (fun l' c' => T l' c' ∨ (l' = l ∧ c' = c)) where
  get := by
    have := t.bnd b (List.mem_of_getElem? hl)
    have := t.out
    rw [zm (by omega)]; exact t.get
  nd := t.nd
  bnd := t.bnd
  row := fun l' b' e => by
    obtain ⟨bs', h1, h2, h3⟩ := t.row l' b' e
    by_cases eb : b' = b
    · subst eb
      have el : l' = l := by
        have hl1 : l' < bl.length := by
          rcases Nat.lt_or_ge l' bl.length with h' | h'
          · exact h'
          · rw [List.getElem?_eq_none h'] at e; cases e
        have hl2 : l < bl.length := by
          rcases Nat.lt_or_ge l bl.length with h' | h'
          · exact h'
          · rw [List.getElem?_eq_none h'] at hl; cases hl
        rw [List.getElem?_eq_getElem hl1] at e
        rw [List.getElem?_eq_getElem hl2] at hl
        exact (List.getElem_inj t.nd).1 ((Option.some.inj e).trans (Option.some.inj hl).symm)
      subst el
      rw [hg] at h1
      have e2 : bs = bs' := by
        have : zbm bs = zbm bs' := (IObj.cells.inj (Option.some.inj h1)).1
        exact List.map_inj_right (fun _ _ h => by cases h; rfl) |>.1 this
      subst e2
      refine ⟨bs.set c true, zx rfl, by simpa using h2, fun c' => ?_⟩
      rw [List.getElem?_set]
      split
      · rename_i ec; subst ec
        simp [h2, hc]
      · rename_i ec
        rw [h3]
        constructor
        · rintro ⟨q1, q2⟩; exact ⟨q1, .inl q2⟩
        · rintro ⟨q1, q2 | q2⟩
          · exact ⟨q1, q2⟩
          · exact absurd q2.2.symm ec
    · refine ⟨bs', by rw [zm eb]; exact h1, h2, fun c' => (h3 c').trans ?_⟩
      have : l' ≠ l := by rintro rfl; rw [hl] at e; cases e; exact eb rfl
      constructor
      · rintro ⟨q1, q2⟩; exact ⟨q1, .inl q2⟩
      · rintro ⟨q1, q2 | q2⟩
        · exact ⟨q1, q2⟩
        · exact absurd q2.1 this
  ltB := t.ltB
  out := t.out
  hin := t.hin
theorem ziu.congr {h : H} {B : Nat} {bl : List Nat} {lo hi N : Nat} {T T' : Nat → Nat → Prop} (t : ziu h B bl lo hi N T) (e : ∀ l c, c < N → (T l c ↔ T' l c)) : ziu h B bl lo hi N T' where
  get := t.get
  nd := t.nd
  bnd := t.bnd
  row := fun l b el => by
    obtain ⟨bs', h1, h2, h3⟩ := t.row l b el
    refine ⟨bs', h1, h2, fun c => (h3 c).trans ?_⟩
    constructor
    · rintro ⟨q1, q2⟩; exact ⟨q1, (e l c q1).1 q2⟩
    · rintro ⟨q1, q2⟩; exact ⟨q1, (e l c q1).2 q2⟩
  ltB := t.ltB
  out := t.out
  hin := t.hin
theorem ziu.slice {h : H} {B : Nat} {bl : List Nat} {lo hi N : Nat} {T : Nat → Nat → Prop} (t : ziu h B bl lo hi N T) {l b : Nat} (hl : bl[l]? = some b) : zbb 1 (zbY l (bl.map fun b => slF b N)) = some [slF b N] := zeK (by rw [List.getElem?_map, hl]; rfl) rfl
end Go.Ideal.J
namespace Go.Ideal.J
open Go Go.Ideal
end Go.Ideal.J
namespace Go.Ideal.J
open Go Go.Ideal
end Go.Ideal.J
namespace Go.Ideal.J
open Go Go.Ideal
end Go.Ideal.J
namespace Go.Ideal.J
open Go Go.Ideal
end Go.Ideal.J
namespace Go.Ideal.J
open Go Go.Ideal
def W (es : List Ed) (n l c : Nat) : Prop := (l = 0 ∧ Sil es n c) ∨ ∃ x ∈ es, Sil es n x.1.toNat ∧ x.2.2 = (l : Int) ∧ Sil es x.2.1.toNat c
end Go.Ideal.J
namespace Go.Ideal.J
open Go Go.Ideal
end Go.Ideal.J
namespace Go.Ideal.J
open Go Go.Ideal
structure ziO (st lb : Int) (es : List Ed) : Prop where
  st1 : 1 ≤ st
  st2 : st ≤ 60
  lb1 : 1 ≤ lb
  lb2 : lb ≤ 41
  len : es.length ≤ 400
  ok : ∀ x ∈ es, 0 ≤ x.1 ∧ x.1 < st ∧ 0 ≤ x.2.1 ∧ x.2.1 < st ∧ 0 ≤ x.2.2 ∧ x.2.2 < lb
  next : ∀ i x y, es[i]? = some x → es[i + 1]? = some y → zeU x y = true
theorem ziO.inB {st lb : Int} {es : List Ed} (f : ziO st lb es) : inB st es := fun x hx => by have := f.ok x hx; exact ⟨this.1, this.2.1, this.2.2.1, this.2.2.2.1⟩
theorem lessE_iff (a b : Ed) : zeU a b = true ↔ a.1 < b.1 ∨ (a.1 = b.1 ∧ (a.2.2 < b.2.2 ∨ (a.2.2 = b.2.2 ∧ a.2.1 < b.2.1))) := by
  unfold zeU
  by_cases h1 : a.1 = b.1
  · by_cases h2 : a.2.2 = b.2.2
    · simp [h1, h2]
    · simp [h1, h2]
  · simp [h1]
theorem lessE_trans {a b c : Ed} (h1 : zeU a b = true) (h2 : zeU b c = true) : zeU a c = true := by
  rw [lessE_iff] at *; omega
theorem ziO.sorted {st lb : Int} {es : List Ed} (f : ziO st lb es) : es.Pairwise fun x y => zeU x y = true := by
  have key : ∀ (l : List Ed), (∀ i x y, l[i]? = some x → l[i + 1]? = some y → zeU x y = true) → l.Pairwise fun x y => zeU x y = true := by
    intro l
    induction l with
    | nil => intro _; exact .nil
    | cons a l ih =>
      intro h
      have ihl := ih fun i x y hx hy => h (i + 1) x y (by simpa using hx) (by simpa using hy)
      refine List.pairwise_cons.2 ⟨?_, ihl⟩
      cases l with
      | nil => intro b hb; cases hb
      | cons b l =>
        have hab := h 0 a b rfl rfl
        intro c hc
        rcases List.mem_cons.1 hc with rfl | hc
        · exact hab
        · exact lessE_trans hab ((List.pairwise_cons.1 ihl).1 c hc)
  exact key es f.next
theorem ziO.sortedF {st lb : Int} {es : List Ed} (f : ziO st lb es) : zY es := f.sorted.imp fun h => by rw [lessE_iff] at h; omega
theorem zgp (st lb : Int) (es : List Ed) : chk st lb es = true ↔ ziO st lb es := by
  have key : ∀ n, n ≤ es.length → (ckN st lb es n = true ↔ ∀ i, es.length - n ≤ i → okAt st lb es i = true) := by
    intro n
    induction n with
    | zero =>
      intro _
      constructor
      · intro _ i hi
        unfold okAt
        rw [List.getElem?_eq_none (by omega)]
      · intro _; rfl
    | succ n ih =>
      intro hn
      show (okAt st lb es (es.length - (n + 1)) && ckN st lb es n) = true ↔ _
      rw [Bool.and_eq_true, ih (by omega)]
      constructor
      · rintro ⟨h1, h2⟩ i hi
        by_cases e : i = es.length - (n + 1)
        · rw [e]; exact h1
        · exact h2 i (by omega)
      · intro h
        exact ⟨h _ (by omega), fun i hi => h i (by omega)⟩
  have key2 : (ckN st lb es es.length = true) ↔ ((∀ x ∈ es, 0 ≤ x.1 ∧ x.1 < st ∧ 0 ≤ x.2.1 ∧ x.2.1 < st ∧ 0 ≤ x.2.2 ∧ x.2.2 < lb) ∧ ∀ i x y, es[i]? = some x → es[i + 1]? = some y → zeU x y = true) := by
    rw [key es.length (Nat.le_refl _)]
    constructor
    · intro h
      refine ⟨fun x hx => ?_, fun i x y hx hy => ?_⟩
      · obtain ⟨i, hi⟩ := List.mem_iff_getElem?.1 hx
        have := h i (by omega)
        unfold okAt at this
        rw [hi] at this
        simp only [Bool.and_eq_true, Bool.not_eq_true', badE, Bool.or_eq_false_iff, decide_eq_false_iff_not] at this
        omega
      · have := h (i + 1) (by omega)
        unfold okAt at this
        rw [hy] at this
        simp only [Bool.and_eq_true, Nat.add_sub_cancel, hx] at this
        simpa using this.2
    · rintro ⟨h1, h2⟩ i _
      unfold okAt
      cases hx : es[i]? with
      | none => rfl
      | some x =>
        have hb := h1 x (List.mem_of_getElem? hx)
        have hbad : badE st lb x = false := by
          simp only [badE, Bool.or_eq_false_iff, decide_eq_false_iff_not]; omega
        simp only [hbad, Bool.not_false, Bool.true_and, Bool.or_eq_true, decide_eq_true_eq]
        by_cases e : i = 0
        · exact .inl e
        · right
          cases hy : es[i - 1]? with
          | none => rfl
          | some y => exact h2 (i - 1) y x hy (by rw [show i - 1 + 1 = i by omega]; exact hx)
  unfold chk
  simp only [Bool.and_eq_true, Bool.not_eq_true', Bool.or_eq_false_iff, decide_eq_false_iff_not, key2]
  constructor
  · rintro ⟨⟨⟨⟨⟨h1, h2⟩, h3⟩, h4⟩, h5⟩, h6, h7⟩
    exact ⟨by omega, by omega, by omega, by omega, by omega, h6, h7⟩
  · rintro ⟨h1, h2, h3, h4, h5, h6, h7⟩
    exact ⟨⟨⟨⟨⟨by omega, by omega⟩, by omega⟩, by omega⟩, by omega⟩, h6, h7⟩
abbrev zdg (a b : Value) : Value := .tuple ⟨[a, b]⟩
end Go.Ideal.J
set_option maxHeartbeats 2000000
namespace Go.Ideal.J
open Go Go.Ideal
abbrev rV (r : Int → Int → Option Int) : Int → Int → Option Value := fun a b => (r a b).map fun k => Value.int .i64 k
def zbG (r : Int → Int → Option Int) (round u t : Int) : Bool := decide (u ≠ t) && match r u t with | some k => decide (k ≤ round) | none => false
def zfv (r : Int → Int → Option Int) (es : List Ed) (x : Ed) (other round : Int) : Bool := (tos es other x.2.2).all fun t => zbG r round x.2.1 t
theorem told_round (r : Int → Int → Option Int) (m : Nat) (x : Ed) (round t : Int) (L pm px pr pq : Nat) (h1 : H) (hm : MapM h1 m (rV r)) (hml : m < h1.next) (hL : h1.get L = some (.loop .ready none (setL [p5, p7, p9, p10] [ptr pm, ptr px, ptr pr, ptr pq]) zde))
    (hpm : h1.get pm = some (.cells [.map (some m)] 0)) (hpx : h1.get px = some (.cells (edL x) 0)) (hpr : h1.get pr = some (.cells [.int .i64 round] 0)) (hpq : h1.get pq = some (.cells [.bool false] 0)) (l0 : L < h1.next) (l1 : pm < h1.next) (l2 : px < h1.next) (l3 : pr < h1.next) (l4 : pq < h1.next)
    (n1 : pm ≠ L) (n2 : px ≠ L) (n3 : pr ≠ L) (n4 : pq ≠ L) (n5 : m ≠ L) {P : Value → H → Prop}
    (hP1 : zbG r round x.2.1 t = true → ∀ h', FrD (fun j => j = L ∨ j = pq) h1 h' → h'.get L = some (.loop .ready none (setL [p5, p7, p9, p10] [ptr pm, ptr px, ptr pr, ptr pq]) zde) → h'.get pq = some (.cells [.bool false] 0) → P (.bool true) h')
    (hP2 : zbG r round x.2.1 t = false → ∀ h', FrD (fun j => j = L ∨ j = pq) h1 h' → h'.get L = some (.loop .done (some .ret) (setL [p5, p7, p9, p10] [ptr pm, ptr px, ptr pr, ptr pq]) zde) → h'.get pq = some (.cells [.bool false] 0) → P (.bool false) h') :
    Ret F (.func (.yield L) #[] #[]) [.int .i64 t] h1 P := by
  refine Ret.round hL ?_
  rw [s_j_1]
  simp (disch := first | omega | (simp only [za, zb]; done) | (simp only [za, zb]; omega)) []
  rw [zdL hL, s_j_2]
  obtain ⟨h2, eh2⟩ : ∃ h2, h2 = (h1.put L (.loop .busy none (setL [p5, p7, p9, p10] [ptr pm, ptr px, ptr pr, ptr pq]) zde)).new (.cells [.int .i64 x.2.1, .int .i64 t] 0) := ⟨_, rfl⟩
  have hf2 : FrD (fun j => j = L) h1 h2 := by rw [eh2]; exact ((FrD.refl (fun j => j = L) _).put (.inr rfl) _).new _
  have hn2 : h2.next = h1.next + 1 := by rw [eh2]; simp
  have gL : h2.get L = some (.loop .busy none (setL [p5, p7, p9, p10] [ptr pm, ptr px, ptr pr, ptr pq]) zde) := by rw [eh2, zbl (by simp; omega), zx rfl]
  have hm2 : MapM h2 m (rV r) := hm.fr hf2 hml n5
  have gm := (hf2.get _ l1 n1).trans hpm
  have gx := (hf2.get _ l2 n2).trans hpx
  have gr := (hf2.get _ l3 n3).trans hpr
  have gq := (hf2.get _ l4 n4).trans hpq
  have gp : h2.get h1.next = some (.cells [.int .i64 x.2.1, .int .i64 t] 0) := by rw [eh2, zdl (by simp)]
  have hlk := zhS hm2 (.int .i64 0) x.2.1 t
  have hf3 : ∀ o, FrD (fun j => j = L ∨ j = pq) h1 (h2.put L o) := fun o => (hf2.mono fun _ _ h => .inl h).put (.inr (.inl rfl)) _
  have hf4 : ∀ o o', FrD (fun j => j = L ∨ j = pq) h1 ((h2.put pq o').put L o) := fun o o' => ((hf2.mono fun _ _ h => .inl h).put (.inr (.inr rfl)) _).put (.inr (.inl rfl)) _
  have gL4 : ∀ o', (h2.put pq o').get L = some (.loop .busy none (setL [p5, p7, p9, p10] [ptr pm, ptr px, ptr pr, ptr pq]) zde) := fun o' => by rw [zm (Ne.symm n4)]; exact gL
  have okk : zbG r round x.2.1 t = true → OkV (fin L none h2) P := fun e => by
    rw [zc4 gL]
    exact OkV.val (hP1 e _ (hf3 _) (zx rfl) (by rw [zm n4]; exact gq))
  have okn : zbG r round x.2.1 t = false → OkV (fin L (some .ret) (h2.put pq (.cells [.bool false] 0))) P := fun e => by
    rw [zfT (gL4 _)]
    exact OkV.val (hP2 e _ (hf4 _ _) (zx rfl) (by rw [zm n4]; exact zx rfl))
  by_cases c1 : x.2.1 = t
  · refine OkV.eq (okn (by simp [zbG, c1])) ?_
    rw [c1] at hlk gp eh2
    simp (disch := first | omega | (simp only [za, zb]; done) | (simp only [za, zb]; omega)) [hpx, n2, c1, zq, ← eh2, gm, gp, hlk, zft, gq]
  · cases hr : r x.2.1 t with
    | none =>
      simp only [rV, hr, Option.map_none, Option.map_some, Option.getD_none, Option.getD_some, Option.isSome_none, Option.isSome_some] at hlk
      refine OkV.eq (okn (by simp [zbG, hr])) ?_
      simp (disch := first | omega | (simp only [za, zb]; done) | (simp only [za, zb]; omega)) [hpx, n2, c1, zq, ← eh2, gm, gp, hlk, zft, gq]
    | some k =>
      simp only [rV, hr, Option.map_none, Option.map_some, Option.getD_none, Option.getD_some, Option.isSome_none, Option.isSome_some] at hlk
      by_cases c2 : k ≤ round
      · refine OkV.eq (okk (by simp [zbG, hr, c1, c2])) ?_
        simp (disch := first | omega | (simp only [za, zb]; done) | (simp only [za, zb]; omega)) [hpx, n2, c1, zq, ← eh2, gm, gp, hlk, zft, gq, gr, c2]
      · refine OkV.eq (okn (by simp [zbG, hr, c2])) ?_
        simp (disch := first | omega | (simp only [za, zb]; done) | (simp only [za, zb]; omega)) [hpx, n2, c1, zq, ← eh2, gm, gp, hlk, zft, gq, gr, c2]
end Go.Ideal.J
namespace Go.Ideal.J
open Go Go.Ideal
theorem told_ok (es : List Ed) (hs : zY es) (hsz : es.length ≤ 1000) (st lb : Int) (r : Int → Int → Option Int) (m : Nat) (x : Ed) (other round : Int) (sl : Value) (h : H) (hrow : Row h 3 sl (es.map edL)) (hm : MapM h m (rV r)) (hml : m < h.next) :
    ∃ h', zbv F (fnV n_j) [.map (some m), gV st lb sl, edV x, .int .i64 other, .int .i64 round] h = some (.bool (zfv r es x other round), h') ∧ Fr h h' := by
  suffices hr : Ret F (fnV n_j) [.map (some m), gV st lb sl, edV x, .int .i64 other, .int .i64 round] h fun v h' => v = .bool (zfv r es x other round) ∧ Fr h h' by
    obtain ⟨v, h', e, rfl, hf⟩ := hr; exact ⟨h', e, hf⟩
  obtain ⟨P, hPd⟩ : ∃ P : Value → H → Prop, P = fun v h' => v = .bool (zfv r es x other round) ∧ Fr h h' := ⟨_, rfl⟩
  rw [← hPd]
  refine Ret.fn F_j 5 (by decide) ?_
  rw [s_j]
  have hv := hrow.slvM
  obtain ⟨q, eq⟩ : ∃ q, q = h.next := ⟨_, rfl⟩
  obtain ⟨h2, eh2⟩ : ∃ h2, h2 = ((((((((h.new (.cells [.map (some m)] 0)).new (.cells (gL st lb sl) 0)).new (.cells (edL x) 0)).new (.cells [.int .i64 round] 0)).new (.cells [.bool false] 0)).new (.cells (gL st lb sl) 0)).new (.cells [.int .i64 other] 0)).new (.cells [.int .i64 x.2.2] 0)).new (.loop .ready none (setL [p5, p7, p9, p10] [ptr h.next, ptr (h.next + 1 + 1), ptr (h.next + 1 + 1 + 1), ptr (h.next + 1 + 1 + 1 + 1)]) zde) := ⟨_, rfl⟩
  simp (disch := first | omega | (simp only [za, zb]; done) | (simp only [za, zb]; omega)) [hv.clean, hv.take, zhi]
  rw [← eh2, ← eq]
  have hf2 : Fr h h2 := by rw [eh2]; exact ((((((((Fr.new _ _).newR _).newR _).newR _).newR _).newR _).newR _).newR _).newR _
  have hn2 : h2.next = q + 9 := by rw [eh2, eq]; simp
  have gm2 : h2.get q = some (.cells [.map (some m)] 0) := by rw [eh2, eq]; simp (disch := first | omega | (simp only [za, zb]; done) | (simp only [za, zb]; omega)) []
  have gx2 : h2.get (q + 1 + 1) = some (.cells (edL x) 0) := by rw [eh2, eq]; simp (disch := first | omega | (simp only [za, zb]; done) | (simp only [za, zb]; omega)) []
  have gr2 : h2.get (q + 1 + 1 + 1) = some (.cells [.int .i64 round] 0) := by rw [eh2, eq]; simp (disch := first | omega | (simp only [za, zb]; done) | (simp only [za, zb]; omega)) []
  have gq2 : h2.get (q + 1 + 1 + 1 + 1) = some (.cells [.bool false] 0) := by rw [eh2, eq]; simp (disch := first | omega | (simp only [za, zb]; done) | (simp only [za, zb]; omega)) []
  have gg2 : h2.get (q + 1 + 1 + 1 + 1 + 1) = some (.cells (gL st lb sl) 0) := by rw [eh2, eq]; simp (disch := first | omega | (simp only [za, zb]; done) | (simp only [za, zb]; omega)) []
  have go2 : h2.get (q + 1 + 1 + 1 + 1 + 1 + 1) = some (.cells [.int .i64 other] 0) := by rw [eh2, eq]; simp (disch := first | omega | (simp only [za, zb]; done) | (simp only [za, zb]; omega)) []
  have gl2 : h2.get (q + 1 + 1 + 1 + 1 + 1 + 1 + 1) = some (.cells [.int .i64 x.2.2] 0) := by rw [eh2, eq]; simp (disch := first | omega | (simp only [za, zb]; done) | (simp only [za, zb]; omega)) []
  have gL2 : h2.get (q + 1 + 1 + 1 + 1 + 1 + 1 + 1 + 1) = some (.loop .ready none (setL [p5, p7, p9, p10] [ptr q, ptr (q + 1 + 1), ptr (q + 1 + 1 + 1), ptr (q + 1 + 1 + 1 + 1)]) zde) := by rw [eh2, eq]; simp (disch := first | omega | (simp only [za, zb]; done) | (simp only [za, zb]; omega)) []
  obtain ⟨L, eL⟩ : ∃ L, L = q + 1 + 1 + 1 + 1 + 1 + 1 + 1 + 1 := ⟨_, rfl⟩
  rw [← eL] at gL2 ⊢
  have hm2 := hm.fr (D := fun _ => False) hf2.D hml (by simp)
  refine OkV.call (zfM es hs hsz other x.2.2 st lb (.func (.yield L) #[] #[]) rfl rfl rfl sl (q + 1 + 1 + 1 + 1 + 1) (q + 1 + 1 + 1 + 1 + 1 + 1) (q + 1 + 1 + 1 + 1 + 1 + 1 + 1) h2 (M := fun j => j = L ∨ j = q + 1 + 1 + 1 + 1) (fun i hi => by omega) (hrow.fr hf2) (by omega) (by omega) (by omega) (fun b o n c e => by have := hrow.lt e; omega) (by omega) gg2 (by omega) go2 (by omega) gl2
    (fun i h1 => h1.get L = some (.loop .ready none (setL [p5, p7, p9, p10] [ptr q, ptr (q + 1 + 1), ptr (q + 1 + 1 + 1), ptr (q + 1 + 1 + 1 + 1)]) zde) ∧ h1.get (q + 1 + 1 + 1 + 1) = some (.cells [.bool false] 0) ∧ FrD (fun j => j = L ∨ j = q + 1 + 1 + 1 + 1) h2 h1 ∧ ∀ t ∈ (tos es other x.2.2).take i, zbG r round x.2.1 t = true)
    (fun h1 => h1.get L = some (.loop .done (some .ret) (setL [p5, p7, p9, p10] [ptr q, ptr (q + 1 + 1), ptr (q + 1 + 1 + 1), ptr (q + 1 + 1 + 1 + 1)]) zde) ∧ h1.get (q + 1 + 1 + 1 + 1) = some (.cells [.bool false] 0) ∧ h2.next ≤ h1.next ∧ ∃ t ∈ tos es other x.2.2, zbG r round x.2.1 t = false) ?_ ?_ ?_ ?_
    (P := fun _ h' => FrD (fun j => j = L ∨ j = q + 1 + 1 + 1 + 1) h2 h' ∧ ((h'.get L = some (.loop .ready none (setL [p5, p7, p9, p10] [ptr q, ptr (q + 1 + 1), ptr (q + 1 + 1 + 1), ptr (q + 1 + 1 + 1 + 1)]) zde) ∧ h'.get (q + 1 + 1 + 1 + 1) = some (.cells [.bool false] 0) ∧ zfv r es x other round = true) ∨ (h'.get L = some (.loop .done (some .ret) (setL [p5, p7, p9, p10] [ptr q, ptr (q + 1 + 1), ptr (q + 1 + 1 + 1), ptr (q + 1 + 1 + 1 + 1)]) zde) ∧ h'.get (q + 1 + 1 + 1 + 1) = some (.cells [.bool false] 0) ∧ zfv r es x other round = false))) ?_) ?_
  · rintro i h1 h3 ⟨q1, q2, q3, q4⟩ hf
    have := q3.next
    refine ⟨(hf.get _ (by omega) (by omega)).trans q1, (hf.get _ (by omega) (by omega)).trans q2, ⟨Nat.le_trans q3.next hf.next, fun j hj hd => (hf.get _ (by omega) (by omega)).trans (q3.get _ hj hd)⟩, q4⟩
  · rintro h1 h3 ⟨q1, q2, q3, q4⟩ hf
    exact ⟨(hf.get _ (by omega) (by omega)).trans q1, (hf.get _ (by omega) (by omega)).trans q2, Nat.le_trans q3 hf.next, q4⟩
  · rintro i v h1 hv ⟨q1, q2, q3, q4⟩ hn
    rw [List.getElem?_map] at hv
    obtain ⟨t, ht, rfl⟩ := Option.map_eq_some_iff.1 hv
    refine told_round r m x round t L q (q + 1 + 1) (q + 1 + 1 + 1) (q + 1 + 1 + 1 + 1) h1 (hm2.fr q3 (by have := hf2.next; omega) (by omega)) (by omega) q1 ((q3.get _ (by omega) (by omega)).trans gm2) ((q3.get _ (by omega) (by omega)).trans gx2) ((q3.get _ (by omega) (by omega)).trans gr2) q2 (by omega) (by omega) (by omega) (by omega) (by omega) (by omega) (by omega) (by omega) (by omega) (by omega) ?_ ?_
    · intro e h' r1 r2 r3
      refine ⟨r1, .inl ⟨rfl, r2, r3, q3.trans r1, fun u hu => ?_⟩⟩
      rw [List.take_add_one, ht] at hu
      rcases List.mem_append.1 hu with hu | hu
      · exact q4 u hu
      · simp at hu; subst hu; exact e
    · intro e h' r1 r2 r3
      exact ⟨r1, .inr ⟨rfl, r2, r3, by have := r1.next; omega, t, List.mem_of_getElem? ht, e⟩⟩
  · exact ⟨gL2, gq2, .refl _ _, by simp⟩
  · intro h' hf hv
    refine ⟨hf, ?_⟩
    rcases hv with ⟨q1, q2, q3, q4⟩ | ⟨q1, q2, q3, t, ht, e⟩
    · refine .inl ⟨q1, q2, ?_⟩
      rw [List.take_length] at q4
      exact List.all_eq_true.2 q4
    · refine .inr ⟨q1, q2, ?_⟩
      rw [Bool.eq_false_iff]
      intro hh
      rw [List.all_eq_true.1 hh t ht] at e; cases e
  · rintro v h' ⟨hf, hv⟩
    have hfn := hf.next
    have hfin : ∀ o o', Fr h ((h'.put L o).put (q + 1 + 1 + 1 + 1) o') := fun o o' => ⟨by simp; have := hf2.next; omega, fun i hi => by
      rw [zm (by omega), zm (by omega), hf.get _ (by have := hf2.next; omega) (by omega)]; exact hf2.get _ hi⟩
    have hfin' : ∀ o, Fr h (h'.put L o) := fun o => ⟨by simp; have := hf2.next; omega, fun i hi => by
      rw [zm (by omega), hf.get _ (by have := hf2.next; omega) (by omega)]; exact hf2.get _ hi⟩
    rcases hv with ⟨q1, q2, q3⟩ | ⟨q1, q2, q3⟩
    · rw [zcH q1, s_j_0]
      refine OkV.eq (OkV.val (v := .bool true) (h := (h'.put L (.loop .exhausted none (setL [p5, p7, p9, p10] [ptr q, ptr (q + 1 + 1), ptr (q + 1 + 1 + 1), ptr (q + 1 + 1 + 1 + 1)]) zde)).put (q + 1 + 1 + 1 + 1) (.cells [.bool true] 0)) (by rw [hPd]; exact ⟨by rw [q3], hfin _ _⟩)) ?_
      simp (disch := first | omega | (simp only [za, zb]; done) | (simp only [za, zb]; omega)) [q2]
    · rw [rgP_ret q1]
      refine OkV.eq (OkV.val (v := .bool false) (h := h'.put L (.loop .exhausted (some .ret) (setL [p5, p7, p9, p10] [ptr q, ptr (q + 1 + 1), ptr (q + 1 + 1 + 1), ptr (q + 1 + 1 + 1 + 1)]) zde)) (by rw [hPd]; exact ⟨by rw [q3], hfin' _⟩)) ?_
      simp (disch := first | omega | (simp only [za, zb]; done) | (simp only [za, zb]; omega)) [q2]
end Go.Ideal.J
namespace Go.Ideal.J
open Go Go.Ideal
def zP (r : Int → Int → Option Int) (es : List Ed) (a b round : Int) : Option Ed := (outs es a).find? fun x => zfv r es x b round
theorem find_at {α : Type} {p : α → Bool} : ∀ {l : List α} {i : Nat} {x : α}, l[i]? = some x → (∀ y ∈ l.take i, p y = false) → p x = true → l.find? p = some x
  | [], i, x, h, _, _ => by simp at h
  | a :: l, 0, x, h, _, hx => by
    simp at h; subst h
    rw [List.find?_cons, hx]
  | a :: l, i + 1, x, h, hn, hx => by
    have ha := hn a (by simp)
    rw [List.find?_cons, ha]
    exact find_at (by simpa using h) (fun y hy => hn y (by simp [hy])) hx
theorem find_none {α : Type} {p : α → Bool} {l : List α} (h : ∀ y ∈ l, p y = false) : l.find? p = none := by
  rw [List.find?_eq_none]; intro x hx; rw [h x hx]; simp
def zbt : Option Ed → Value
  | some x => pairV' (edV x) (.bool true)
  | none => pairV' (edV (0, 0, 0)) (.bool false)
where pairV' (a b : Value) : Value := .tuple ⟨[a, b]⟩
noncomputable abbrev slF1 (q : Nat) : ze := setL [p5, p6, p8, p9, p10, p11] [ptr q, ptr (q + 1), ptr (q + 1 + 1), ptr (q + 1 + 1 + 1), ptr (q + 1 + 1 + 1 + 1), ptr (q + 1 + 1 + 1 + 1 + 1)]
theorem first_round (es : List Ed) (hs : zY es) (hsz : es.length ≤ 1000) (st lb : Int) (r : Int → Int → Option Int) (m : Nat) (x : Ed) (other round : Int) (sl : Value) (L q : Nat) (h1 : H) (hrow : Row h1 3 sl (es.map edL)) (hsl : ∀ b o n c, sl = .slice (some ⟨b, o, none⟩) n c → b ≠ L) (hm : MapM h1 m (rV r)) (hml : m < q) (hL : h1.get L = some (.loop .ready none (slF1 q) zdC)) (hLq : q + 6 ≤ L)
    (g0 : h1.get q = some (.cells [.map (some m)] 0)) (g1 : h1.get (q + 1) = some (.cells (gL st lb sl) 0)) (g2 : h1.get (q + 1 + 1) = some (.cells [.int .i64 other] 0)) (g3 : h1.get (q + 1 + 1 + 1) = some (.cells [.int .i64 round] 0)) (g4 : h1.get (q + 1 + 1 + 1 + 1) = some (.cells (edL (0, 0, 0)) 0)) (g5 : h1.get (q + 1 + 1 + 1 + 1 + 1) = some (.cells [.bool false] 0)) (hl : L < h1.next) {P : Value → H → Prop}
    (hP1 : zfv r es x other round = false → ∀ h', FrD (fun j => j = L ∨ j = q + 4 ∨ j = q + 5) h1 h' → h'.get L = some (.loop .ready none (slF1 q) zdC) → h'.get (q + 4) = some (.cells (edL (0, 0, 0)) 0) → h'.get (q + 5) = some (.cells [.bool false] 0) → P (.bool true) h')
    (hP2 : zfv r es x other round = true → ∀ h', FrD (fun j => j = L ∨ j = q + 4 ∨ j = q + 5) h1 h' → h'.get L = some (.loop .done (some .ret) (slF1 q) zdC) → h'.get (q + 4) = some (.cells (edL x) 0) → h'.get (q + 5) = some (.cells [.bool true] 0) → P (.bool false) h') :
    Ret F (.func (.yield L) #[] #[]) [edV x] h1 P := by
  refine Ret.round hL ?_
  rw [s_g_1]
  simp (disch := first | omega | (simp only [za, zb]; done) | (simp only [za, zb]; omega)) []
  obtain ⟨h2, eh2⟩ : ∃ h2, h2 = (h1.new (.cells (edL x) 0)).put L (.loop .busy none (slF1 q) zdC) := ⟨_, rfl⟩
  rw [zdL (by rw [zbl (by omega)]; exact hL), s_g_2]
  have hf2 : FrD (fun j => j = L) h1 h2 := by rw [eh2]; exact ((FrD.refl (fun j => j = L) _).new _).put (.inr rfl) _
  have hn2 : h2.next = h1.next + 1 := by rw [eh2]; simp
  have gL2 : h2.get L = some (.loop .busy none (slF1 q) zdC) := by rw [eh2, zx rfl]
  have gx2 : h2.get h1.next = some (.cells (edL x) 0) := by rw [eh2, zm (by omega), zdl rfl]
  have k0 := (hf2.get _ (by omega) (by omega)).trans g0
  have k1 := (hf2.get _ (by omega) (by omega)).trans g1
  have k2' := (hf2.get _ (by omega) (by omega)).trans g2
  have k3 := (hf2.get _ (by omega) (by omega)).trans g3
  have k4 := (hf2.get _ (by omega) (by omega)).trans g4
  have k5 := (hf2.get _ (by omega) (by omega)).trans g5
  have hv := hrow.slvM
  obtain ⟨h3, e3, hf3⟩ := told_ok es hs hsz st lb r m x other round sl h2 (hrow.frD hf2 hsl) (hm.fr hf2 (by omega) (by omega)) (by omega)
  have hfn3 := hf3.next
  have gL3 := (hf3.get _ (by omega)).trans gL2
  have gx3 := (hf3.get _ (by omega)).trans gx2
  have j4 := (hf3.get _ (by omega)).trans k4
  have j5 := (hf3.get _ (by omega)).trans k5
  have hf13 : FrD (fun j => j = L ∨ j = q + 4 ∨ j = q + 5) h1 h3 := ⟨by omega, fun i hi hd => (hf3.get _ (by omega)).trans (hf2.get _ hi (by omega))⟩
  rw [← eh2]
  cases ht : zfv r es x other round with
  | false =>
    rw [ht] at e3
    have : OkV (fin L none h3) P := by
      rw [zc4 gL3]
      exact OkV.val (hP1 ht _ (hf13.put (.inr (.inl rfl)) _) (zx rfl) (by rw [zm (by omega)]; exact j4) (by rw [zm (by omega)]; exact j5))
    refine OkV.eq this ?_
    simp (disch := first | omega | (simp only [za, zb]; done) | (simp only [za, zb]; omega)) [k0, k1, k2', k3, gx2, hv.clean, hv.take, e3]
  | true =>
    rw [ht] at e3
    have : OkV (fin L (some .ret) ((h3.put (q + 1 + 1 + 1 + 1) (.cells (edL x) 0)).put (q + 1 + 1 + 1 + 1 + 1) (.cells [.bool true] 0))) P := by
      rw [zfT (by rw [zm (by omega), zm (by omega)]; exact gL3)]
      exact OkV.val (hP2 ht _ (((hf13.put (.inr (.inr (.inl rfl))) _).put (.inr (.inr (.inr rfl))) _).put (.inr (.inl rfl)) _) (zx rfl) (by rw [zm (by omega), zm (by omega), zx rfl]) (by rw [zm (by omega), zx rfl]))
    refine OkV.eq this ?_
    simp (disch := first | omega | (simp only [za, zb]; done) | (simp only [za, zb]; omega)) [k0, k1, k2', k3, gx2, hv.clean, hv.take, e3, gx3, j4, j5]
theorem zhl (es : List Ed) (hs : zY es) (hsz : es.length ≤ 1000) (st lb : Int) (r : Int → Int → Option Int) (m : Nat) (a b round : Int) (sl : Value) (h : H) (hrow : Row h 3 sl (es.map edL)) (hm : MapM h m (rV r)) (hml : m < h.next) :
    ∃ h', zbv F (fnV n_g) [.map (some m), gV st lb sl, .int .i64 a, .int .i64 b, .int .i64 round] h = some (zbt (zP r es a b round), h') ∧ Fr h h' := by
  suffices hr : Ret F (fnV n_g) [.map (some m), gV st lb sl, .int .i64 a, .int .i64 b, .int .i64 round] h fun v h' => v = zbt (zP r es a b round) ∧ Fr h h' by
    obtain ⟨v, h', e, rfl, hf⟩ := hr; exact ⟨h', e, hf⟩
  obtain ⟨P, hPd⟩ : ∃ P : Value → H → Prop, P = fun v h' => v = zbt (zP r es a b round) ∧ Fr h h' := ⟨_, rfl⟩
  rw [← hPd]
  refine Ret.fn F_g 5 (by decide) ?_
  rw [s_g]
  have hv := hrow.slvM
  obtain ⟨q, eq⟩ : ∃ q, q = h.next := ⟨_, rfl⟩
  obtain ⟨h2, eh2⟩ : ∃ h2, h2 = ((((((((h.new (.cells [.map (some m)] 0)).new (.cells (gL st lb sl) 0)).new (.cells [.int .i64 b] 0)).new (.cells [.int .i64 round] 0)).new (.cells (edL (0, 0, 0)) 0)).new (.cells [.bool false] 0)).new (.cells (gL st lb sl) 0)).new (.cells [.int .i64 a] 0)).new (.loop .ready none (slF1 h.next) zdC) := ⟨_, rfl⟩
  simp (disch := first | omega | (simp only [za, zb]; done) | (simp only [za, zb]; omega)) [hv.clean, hv.take, steps_ok]
  rw [← eh2, ← eq]
  have hf2 : Fr h h2 := by rw [eh2]; exact ((((((((Fr.new _ _).newR _).newR _).newR _).newR _).newR _).newR _).newR _).newR _
  have hn2 : h2.next = q + 9 := by rw [eh2, eq]; simp
  have k0 : h2.get q = some (.cells [.map (some m)] 0) := by rw [eh2, eq]; simp (disch := first | omega | (simp only [za, zb]; done) | (simp only [za, zb]; omega)) []
  have k1 : h2.get (q + 1) = some (.cells (gL st lb sl) 0) := by rw [eh2, eq]; simp (disch := first | omega | (simp only [za, zb]; done) | (simp only [za, zb]; omega)) []
  have k2' : h2.get (q + 1 + 1) = some (.cells [.int .i64 b] 0) := by rw [eh2, eq]; simp (disch := first | omega | (simp only [za, zb]; done) | (simp only [za, zb]; omega)) []
  have k3 : h2.get (q + 1 + 1 + 1) = some (.cells [.int .i64 round] 0) := by rw [eh2, eq]; simp (disch := first | omega | (simp only [za, zb]; done) | (simp only [za, zb]; omega)) []
  have k4 : h2.get (q + 1 + 1 + 1 + 1) = some (.cells (edL (0, 0, 0)) 0) := by rw [eh2, eq]; simp (disch := first | omega | (simp only [za, zb]; done) | (simp only [za, zb]; omega)) []
  have k5 : h2.get (q + 1 + 1 + 1 + 1 + 1) = some (.cells [.bool false] 0) := by rw [eh2, eq]; simp (disch := first | omega | (simp only [za, zb]; done) | (simp only [za, zb]; omega)) []
  have gg2 : h2.get (q + 1 + 1 + 1 + 1 + 1 + 1) = some (.cells (gL st lb sl) 0) := by rw [eh2, eq]; simp (disch := first | omega | (simp only [za, zb]; done) | (simp only [za, zb]; omega)) []
  have gf2 : h2.get (q + 1 + 1 + 1 + 1 + 1 + 1 + 1) = some (.cells [.int .i64 a] 0) := by rw [eh2, eq]; simp (disch := first | omega | (simp only [za, zb]; done) | (simp only [za, zb]; omega)) []
  have gL2 : h2.get (q + 1 + 1 + 1 + 1 + 1 + 1 + 1 + 1) = some (.loop .ready none (slF1 q) zdC) := by rw [eh2, eq]; simp (disch := first | omega | (simp only [za, zb]; done) | (simp only [za, zb]; omega)) []
  obtain ⟨L, eL⟩ : ∃ L, L = q + 1 + 1 + 1 + 1 + 1 + 1 + 1 + 1 := ⟨_, rfl⟩
  rw [← eL] at gL2 ⊢
  have hm2 := hm.fr (D := fun _ => False) hf2.D hml (by simp)
  refine OkV.call (zhv es hs hsz a st lb (.func (.yield L) #[] #[]) sl (q + 1 + 1 + 1 + 1 + 1 + 1) (q + 1 + 1 + 1 + 1 + 1 + 1 + 1) h2 (M := fun j => j = L ∨ j = q + 4 ∨ j = q + 5) (hrow.fr hf2) (by omega) (by omega) (fun b o n c e => by have := hrow.lt e; omega) (by omega) gg2 (by omega) gf2
    (fun i h1 => h1.get L = some (.loop .ready none (slF1 q) zdC) ∧ h1.get (q + 4) = some (.cells (edL (0, 0, 0)) 0) ∧ h1.get (q + 5) = some (.cells [.bool false] 0) ∧ FrD (fun j => j = L ∨ j = q + 4 ∨ j = q + 5) h2 h1 ∧ ∀ x ∈ (outs es a).take i, zfv r es x b round = false)
    (fun h1 => ∃ x, h1.get L = some (.loop .done (some .ret) (slF1 q) zdC) ∧ h1.get (q + 4) = some (.cells (edL x) 0) ∧ h1.get (q + 5) = some (.cells [.bool true] 0) ∧ zP r es a b round = some x) h2.next (Nat.le_refl _) ?_ ?_ ?_
    (P := fun _ h' => FrD (fun j => j = L ∨ j = q + 4 ∨ j = q + 5) h2 h' ∧ ((h'.get L = some (.loop .ready none (slF1 q) zdC) ∧ h'.get (q + 4) = some (.cells (edL (0, 0, 0)) 0) ∧ h'.get (q + 5) = some (.cells [.bool false] 0) ∧ zP r es a b round = none) ∨ ∃ x, h'.get L = some (.loop .done (some .ret) (slF1 q) zdC) ∧ h'.get (q + 4) = some (.cells (edL x) 0) ∧ h'.get (q + 5) = some (.cells [.bool true] 0) ∧ zP r es a b round = some x)) ?_) ?_
  · rintro i h1 h3 ⟨q1, q2, q3, q4, q5⟩ hf
    have := q4.next
    exact ⟨(hf.get _ (by omega)).trans q1, (hf.get _ (by omega)).trans q2, (hf.get _ (by omega)).trans q3, q4.trans hf.D, q5⟩
  · rintro i v h1 hv ⟨q1, q2, q3, q4, q5⟩ hn
    rw [List.getElem?_map] at hv
    obtain ⟨x, hx, rfl⟩ := Option.map_eq_some_iff.1 hv
    refine first_round es hs hsz st lb r m x b round sl L q h1 ((hrow.fr hf2).frD q4 (fun b o n c e => by have := hrow.lt e; omega)) (fun b o n c e => by have := hrow.lt e; omega) (hm2.fr q4 (by omega) (by omega)) (by omega) q1 (by omega) ((q4.get _ (by omega) (by omega)).trans k0) ((q4.get _ (by omega) (by omega)).trans k1) ((q4.get _ (by omega) (by omega)).trans k2') ((q4.get _ (by omega) (by omega)).trans k3) q2 q3 (by omega) ?_ ?_
    · intro e h' r1 r2 r3 r4
      refine ⟨r1, .inl ⟨rfl, r2, r3, r4, q4.trans r1, fun y hy => ?_⟩⟩
      rw [List.take_add_one, hx] at hy
      rcases List.mem_append.1 hy with hy | hy
      · exact q5 y hy
      · simp at hy; subst hy; exact e
    · intro e h' r1 r2 r3 r4
      exact ⟨r1, .inr ⟨rfl, x, r2, r3, r4, find_at hx q5 e⟩⟩
  · exact ⟨gL2, k4, k5, .refl _ _, by simp⟩
  · intro h' hf hv
    refine ⟨hf, ?_⟩
    rcases hv with ⟨q1, q2, q3, q4, q5⟩ | ⟨x, q1, q2, q3, q4⟩
    · rw [List.take_length] at q5
      exact .inl ⟨q1, q2, q3, find_none q5⟩
    · exact .inr ⟨x, q1, q2, q3, q4⟩
  · rintro v h' ⟨hf, hv⟩
    have hfn := hf.next
    have hfin : ∀ o, Fr h (h'.put L o) := fun o => ⟨by simp; have := hf2.next; omega, fun i hi => by
      rw [zm (by omega), hf.get _ (by have := hf2.next; omega) (by omega)]; exact hf2.get _ hi⟩
    have hfin' : ∀ o o1 o2, Fr h (((h'.put L o).put (q + 1 + 1 + 1 + 1) o1).put (q + 1 + 1 + 1 + 1 + 1) o2) := fun o o1 o2 => ((hfin o).put (by omega) _).put (by omega) _
    rcases hv with ⟨q1, q2, q3, q4⟩ | ⟨x, q1, q2, q3, q4⟩
    · rw [zcH q1, s_g_0]
      refine OkV.eq (OkV.val (v := zbt none) (h := ((h'.put L (.loop .exhausted none (slF1 q) zdC)).put (q + 1 + 1 + 1 + 1) (.cells (edL (0, 0, 0)) 0)).put (q + 1 + 1 + 1 + 1 + 1) (.cells [.bool false] 0)) (by rw [hPd]; exact ⟨by rw [q4], hfin' _ _ _⟩)) ?_
      have q2' : h'.get (q + 1 + 1 + 1 + 1) = some (.cells (edL (0, 0, 0)) 0) := q2
      have q3' : h'.get (q + 1 + 1 + 1 + 1 + 1) = some (.cells [.bool false] 0) := q3
      simp (disch := first | omega | (simp only [za, zb]; done) | (simp only [za, zb]; omega)) [q2', q3', zq, zbt, zbt.pairV']
    · rw [rgP_ret q1]
      refine OkV.eq (OkV.val (v := zbt (some x)) (h := h'.put L (.loop .exhausted (some .ret) (slF1 q) zdC)) (by rw [hPd]; exact ⟨by rw [q4], hfin _⟩)) ?_
      have q2' : h'.get (q + 1 + 1 + 1 + 1) = some (.cells (edL x) 0) := q2
      have q3' : h'.get (q + 1 + 1 + 1 + 1 + 1) = some (.cells [.bool true] 0) := q3
      simp (disch := first | omega | (simp only [za, zb]; done) | (simp only [za, zb]; omega)) [q2', q3', zq, zbt, zbt.pairV']
end Go.Ideal.J
namespace Go.Ideal.J
open Go Go.Ideal
def zcu (r : Int → Int → Option Int) (es : List Ed) (n : Int) (a b : Int) : Bool := (r a b).isNone && ((zP r es a b (n - 1)).isSome || (zP r es b a (n - 1)).isSome)
def fndA (r : Int → Int → Option Int) (es : List Ed) (n : Int) (a b : Nat) : List (Int × Int) := ((List.range b).filter fun (b : Nat) => zcu r es n (a : Int) (b : Int)).map fun (b : Nat) => ((a : Int), (b : Int))
def fnd (r : Int → Int → Option Int) (es : List Ed) (n : Int) (a : Nat) : List (Int × Int) := (List.range a).flatMap fun a => fndA r es n a a
theorem fndA_succ (r : Int → Int → Option Int) (es : List Ed) (n : Int) (a b : Nat) : fndA r es n a (b + 1) = fndA r es n a b ++ if zcu r es n a b then [((a : Int), (b : Int))] else [] := by
  unfold fndA
  rw [List.range_succ, List.filter_append, List.map_append]
  congr 1
  by_cases e : zcu r es n (a : Int) (b : Int) = true
  · rw [if_pos e]; simp [e]
  · rw [if_neg e]; simp [e]
theorem fnd_succ (r : Int → Int → Option Int) (es : List Ed) (n : Int) (a : Nat) : fnd r es n (a + 1) = fnd r es n a ++ fndA r es n a a := by
  unfold fnd
  rw [List.range_succ, List.flatMap_append]
  simp
theorem fndA_len (r : Int → Int → Option Int) (es : List Ed) (n : Int) (a b : Nat) : (fndA r es n a b).length ≤ b := by
  unfold fndA
  rw [List.length_map]
  exact Nat.le_trans (List.length_filter_le _ _) (by simp)
theorem fnd_len (r : Int → Int → Option Int) (es : List Ed) (n : Int) {N : Nat} : ∀ a, a ≤ N → (fnd r es n a).length ≤ a * N
  | 0, _ => by simp [fnd]
  | a + 1, h => by
    rw [fnd_succ, List.length_append, Nat.succ_mul]
    have := fnd_len r es n (N := N) a (by omega)
    have := fndA_len r es n a a
    omega
abbrev prL (p : Int × Int) : List Value := [.int .i64 p.1, .int .i64 p.2]
theorem apart5 (es : List Ed) (hs : zY es) (hsz : es.length ≤ 1000) (N : Nat) (hN : N ≤ 200) (lb : Int) (r : Int → Int → Option Int) (n : Int) (hn : 1 ≤ n ∧ n ≤ 1000000) (m pg : Nat) (sl : Value) (a : Nat) (haN : a < N) (rows : List (Int × Int)) (hrows : rows.length ≤ 100000) (h0 : H) (hrow : Row h0 3 sl (es.map edL)) (hm : MapM h0 m (rV r)) (hml : m < h0.next) (hgg : h0.get pg = some (.cells (gL (N : Int) lb sl) 0)) (hpg : pg < h0.next) (lo : Nat) (hlo : lo ≤ h0.next) (hmlo : m < lo) (hpglo : pg < lo) (hsllo : ∀ b o n c, sl = .slice (some ⟨b, o, none⟩) n c → b < lo) {P : Value → H → Prop}
    (hP : ∀ h' fv ob, FrD (fun j => lo ≤ j) h0 h' → Grow h' 2 fv ((rows ++ fndA r es n a a).map prL) ob → (∀ q, ob = some q → lo ≤ q) → OkV (sh (rI F) zg6 (K_b_4 (rI F)) (setL [p1, p3, p4, p5, p18, p19] [ptr pg, .map (some m), .int .i64 n, fv, .int .i64 (N : Int), .int .i64 (a : Int)]) h') P) :
    ∀ (k b : Nat) (h : H) (fv : Value) (ob : Option Nat), b + k = a → FrD (fun j => lo ≤ j) h0 h → Grow h 2 fv ((rows ++ fndA r es n a b).map prL) ob → (∀ q, ob = some q → lo ≤ q) →
    OkV (sh (rI F) zg5 (K_b_5 (rI F)) (setL [p1, p3, p4, p5, p6, p18, p19, p22, p23] [ptr pg, .map (some m), .int .i64 n, fv, .int .i64 (a : Int), .int .i64 (N : Int), .int .i64 (a : Int), .int .i64 (a : Int), .int .i64 (b : Int)]) h) P := by
  intro k
  induction k with
  | zero =>
    intro b h fv ob hb hf hg hob
    have e : b = a := by omega
    subst e
    rw [s_b_5]
    simp (disch := first | omega | (simp only [za, zb]; done) | (simp only [za, zb]; omega)) []
    exact hP h fv ob hf hg hob
  | succ k ih =>
    intro b h fv ob hb hf hg hob
    have hba : b < a := by omega
    have hfn := hf.next
    have hsucc := fndA_succ r es n a b
    have hv := hrow.slvM
    have hm1 := hm.fr hf hml (by omega)
    have hrow1 := hrow.frD hf (fun b o n c e => by have := hsllo b o n c e; omega)
    have gpg := (hf.get _ hpg (by omega)).trans hgg
    have hlk := zhS hm1 (.int .i64 0) (a : Int) (b : Int)
    rw [s_b_5]
    have skip : zcu r es n a b = false → ∀ h', Fr h h' → OkV (sh (rI F) zik (K_b_6 (rI F)) (setL [p1, p3, p4, p5, p6, p18, p19, p22, p23] [ptr pg, .map (some m), .int .i64 n, fv, .int .i64 (a : Int), .int .i64 (N : Int), .int .i64 (a : Int), .int .i64 (a : Int), .int .i64 (b : Int)]) h') P := by
      intro hc h' hf'
      rw [s_b_6]
      have := ih (b + 1) h' fv ob (by omega) (hf.trans hf'.D) (by rw [hsucc, hc]; simpa using hg.fr hf') hob
      refine OkV.eq (this.lp (l_b_5 F _ _ _ _ _ _ _ _ _ _)) ?_
      simp (disch := first | omega | (simp only [za, zb]; done) | (simp only [za, zb]; omega)) [zW]
    cases hr : r a b with
    | some v =>
      simp only [rV, hr, Option.map_none, Option.map_some, Option.getD_none, Option.getD_some, Option.isSome_none, Option.isSome_some] at hlk
      refine OkV.eq (skip (by simp [zcu, hr]) h (.refl _)) ?_
      simp (disch := first | omega | (simp only [za, zb]; done) | (simp only [za, zb]; omega)) [hba, hlk, zq]
    | none =>
      simp only [rV, hr, Option.map_none, Option.map_some, Option.getD_none, Option.getD_some, Option.isSome_none, Option.isSome_some] at hlk
      obtain ⟨h1, e1, hf1⟩ := zhl es hs hsz (N : Int) lb r m (a : Int) (b : Int) (n - 1) sl h hrow1 hm1 (by omega)
      have hfn1 := hf1.next
      have take : zcu r es n a b = true → ∀ h', Fr h h' → OkV (sh (rI F) c_b_7 (K_b_7 (rI F)) (setL [p1, p3, p4, p5, p6, p7, p11, p18, p19, p22, p23] [ptr pg, .map (some m), .int .i64 n, fv, .int .i64 (a : Int), .int .i64 (b : Int), .bool true, .int .i64 (N : Int), .int .i64 (a : Int), .int .i64 (a : Int), .int .i64 (b : Int)]) h') P := by
        intro hc h' hf'
        rw [s_b_7]
        simp (disch := first | omega | (simp only [za, zb]; done) | (simp only [za, zb]; omega)) [zq, zu]
        obtain ⟨h2, eh2⟩ : ∃ h2, h2 = h'.new (.cells [.int .i64 (a : Int), .int .i64 (b : Int)] 0) := ⟨_, rfl⟩
        have hf2 : Fr h h2 := by rw [eh2]; exact hf'.newR _
        have hn2 : h2.next = h'.next + 1 := by rw [eh2]; simp
        have hfn' := hf'.next
        have hfl := fndA_len r es n a b
        obtain ⟨h3, fv', ea, hg3, hn3, hf3⟩ := zdp (h := h2) (sz := 2) (bytes := 16) (r := prL ((a : Int), (b : Int))) (b := h'.next) (e := 0) (by omega) (by decide) (hg.fr hf2) (by rw [eh2]; simp) rfl rfl rfl (by rw [List.length_map, List.length_append]; omega)
        rw [← eh2, ea]
        simp (disch := first | omega | (simp only [za, zb]; done) | (simp only [za, zb]; omega)) []
        rw [s_b_6]
        have := ih (b + 1) h3 fv' (some h2.next) (by omega) ⟨by omega, fun i hi hd => (hf3.get _ (by omega) (fun e => hd (hob _ e))).trans ((hf2.get _ (by omega)).trans (hf.get _ hi hd))⟩ (by rw [hsucc, if_pos hc, ← List.append_assoc, List.map_append]; exact hg3) (fun q e => by cases e; omega)
        refine OkV.eq (this.lp (l_b_5 F _ _ _ _ _ _ _ _ _ _)) ?_
        simp (disch := first | omega | (simp only [za, zb]; done) | (simp only [za, zb]; omega)) [zW]
      have leave : zcu r es n a b = false → ∀ h', Fr h h' → OkV (sh (rI F) c_b_7 (K_b_7 (rI F)) (setL [p1, p3, p4, p5, p6, p7, p11, p18, p19, p22, p23] [ptr pg, .map (some m), .int .i64 n, fv, .int .i64 (a : Int), .int .i64 (b : Int), .bool false, .int .i64 (N : Int), .int .i64 (a : Int), .int .i64 (a : Int), .int .i64 (b : Int)]) h') P := by
        intro hc h' hf'
        rw [s_b_7]
        simp (disch := first | omega | (simp only [za, zb]; done) | (simp only [za, zb]; omega)) []
        exact skip hc h' hf'
      cases h1c : zP r es a b (n - 1) with
      | some x =>
        rw [h1c] at e1
        have hf1' : Fr h (h1.new (.cells (edL x) 0)) := hf1.newR _
        refine OkV.eq (take (by simp [zcu, hr, h1c]) _ hf1') ?_
        simp only [zbt, zbt.pairV'] at e1
        simp (disch := first | omega | (simp only [za, zb]; done) | (simp only [za, zb]; omega)) [hba, hlk, zq, gpg, hv.clean, hv.take, z7, e1]
      | none =>
        rw [h1c] at e1
        simp only [zbt, zbt.pairV'] at e1
        have hf1' : Fr h (h1.new (.cells (edL (0, 0, 0)) 0)) := hf1.newR _
        obtain ⟨h2, e2, hf2⟩ := zhl es hs hsz (N : Int) lb r m (b : Int) (a : Int) (n - 1) sl (h1.new (.cells (edL (0, 0, 0)) 0)) (hrow1.fr hf1') (hm1.fr (D := fun _ => False) hf1'.D (by omega) (by simp)) (by simp; omega)
        have gpg1 := (hf1.get _ (by omega)).trans gpg
        cases h2c : zP r es b a (n - 1) with
        | some x =>
          rw [h2c] at e2
          simp only [zbt, zbt.pairV'] at e2
          refine OkV.eq (take (by simp [zcu, hr, h1c, h2c]) _ (hf1'.trans hf2)) ?_
          simp (disch := first | omega | (simp only [za, zb]; done) | (simp only [za, zb]; omega)) [hba, hlk, zq, gpg, gpg1, hv.clean, hv.take, z7, e1, e2]
        | none =>
          rw [h2c] at e2
          simp only [zbt, zbt.pairV'] at e2
          refine OkV.eq (leave (by simp [zcu, hr, h1c, h2c]) _ (hf1'.trans hf2)) ?_
          simp (disch := first | omega | (simp only [za, zb]; done) | (simp only [za, zb]; omega)) [hba, hlk, zq, gpg, gpg1, hv.clean, hv.take, z7, e1, e2]
end Go.Ideal.J
namespace Go.Ideal.J
open Go Go.Ideal
def setR (r : Int → Int → Option Int) (n : Int) (p : Int × Int) : Int → Int → Option Int := fun c d => if (c = p.1 ∧ d = p.2) ∨ (c = p.2 ∧ d = p.1) then some n else r c d
def zcE (r : Int → Int → Option Int) (n : Int) (l : List (Int × Int)) : Int → Int → Option Int := l.foldl (fun r p => setR r n p) r
theorem rV_set (r : Int → Int → Option Int) (n : Int) (p : Int × Int) : upd2 (upd2 (rV r) p.1 p.2 (.int .i64 n)) p.2 p.1 (.int .i64 n) = rV (setR r n p) := by
  funext c d
  unfold upd2 setR rV; dsimp only
  by_cases h1 : c = p.2 ∧ d = p.1
  · rw [if_pos h1, if_pos (.inr h1)]; rfl
  · rw [if_neg h1]
    by_cases h2 : c = p.1 ∧ d = p.2
    · rw [if_pos h2, if_pos (.inl h2)]; rfl
    · rw [if_neg h2, if_neg (fun h => h.elim h2 h1)]
theorem zbD (n : Int) : ∀ (l : List (Int × Int)) (r : Int → Int → Option Int) (c d : Int), zcE r n l c d = if (c, d) ∈ l ∨ (d, c) ∈ l then some n else r c d
  | [], r, c, d => by simp [zcE]
  | p :: l, r, c, d => by
    show zcE (setR r n p) n l c d = _
    rw [zbD n l]
    by_cases h : (c, d) ∈ l ∨ (d, c) ∈ l
    · rw [if_pos h, if_pos (h.imp (fun h => List.mem_cons_of_mem _ h) (fun h => List.mem_cons_of_mem _ h))]
    · rw [if_neg h]
      unfold setR
      by_cases h2 : (c = p.1 ∧ d = p.2) ∨ (c = p.2 ∧ d = p.1)
      · rw [if_pos h2, if_pos]
        rcases h2 with ⟨rfl, rfl⟩ | ⟨rfl, rfl⟩
        · exact .inl (by simp)
        · exact .inr (by simp)
      · rw [if_neg h2, if_neg]
        rintro (h3 | h3)
        · rcases List.mem_cons.1 h3 with h3 | h3
          · exact h2 (.inl ⟨by rw [← h3], by rw [← h3]⟩)
          · exact h (.inl h3)
        · rcases List.mem_cons.1 h3 with h3 | h3
          · exact h2 (.inr ⟨by rw [← h3], by rw [← h3]⟩)
          · exact h (.inr h3)
def rN (es : List Ed) (N : Nat) : Nat → Int → Int → Option Int
  | 0 => fun _ _ => none
  | k + 1 => zcE (rN es N k) ((k : Int) + 1) (fnd (rN es N k) es ((k : Int) + 1) N)
def allP (N : Nat) : List (Nat × Nat) := (List.range N).flatMap fun a => (List.range a).map fun b => (a, b)
def meas (N : Nat) (r : Int → Int → Option Int) : Nat := (allP N).countP fun p => (r p.1 p.2).isNone
theorem countP_le {α : Type} {p q : α → Bool} : ∀ {l : List α}, (∀ x ∈ l, q x = true → p x = true) → l.countP q ≤ l.countP p
  | [], _ => by simp
  | a :: l, h => by
    have ih := countP_le (l := l) fun x hx => h x (by simp [hx])
    have ha := h a (by simp)
    rw [List.countP_cons, List.countP_cons]
    cases hq : q a
    · simp; omega
    · rw [ha hq]; simp; omega
theorem countP_lt {α : Type} {p q : α → Bool} : ∀ {l : List α}, (∀ x ∈ l, q x = true → p x = true) → (∃ x ∈ l, p x = true ∧ q x = false) → l.countP q < l.countP p
  | [], _, ⟨x, hx, _⟩ => by cases hx
  | a :: l, h, ⟨x, hx, h1, h2⟩ => by
    have hle := countP_le (l := l) fun x hx => h x (by simp [hx])
    have ha := h a (by simp)
    rw [List.countP_cons, List.countP_cons]
    rcases List.mem_cons.1 hx with rfl | hx
    · rw [h1, h2]; simp; omega
    · have := countP_lt (l := l) (fun x hx => h x (by simp [hx])) ⟨x, hx, h1, h2⟩
      cases hq : q a
      · simp; omega
      · rw [ha hq]; simp; omega
theorem mem_allP {N a b : Nat} : (a, b) ∈ allP N ↔ a < N ∧ b < a := by
  unfold allP
  rw [List.mem_flatMap]
  constructor
  · rintro ⟨a', h1, h2⟩
    obtain ⟨b', h3, h4⟩ := List.mem_map.1 h2
    cases h4
    exact ⟨List.mem_range.1 h1, List.mem_range.1 h3⟩
  · rintro ⟨h1, h2⟩
    exact ⟨a, List.mem_range.2 h1, List.mem_map.2 ⟨b, List.mem_range.2 h2, rfl⟩⟩
theorem zda {r : Int → Int → Option Int} {es : List Ed} {n : Int} {N : Nat} {p : Int × Int} : p ∈ fnd r es n N ↔ ∃ a b : Nat, p = ((a : Int), (b : Int)) ∧ a < N ∧ b < a ∧ zcu r es n a b = true := by
  unfold fnd fndA
  rw [List.mem_flatMap]
  constructor
  · rintro ⟨a, h1, h2⟩
    obtain ⟨b, h3, rfl⟩ := List.mem_map.1 h2
    obtain ⟨h4, h5⟩ := List.mem_filter.1 h3
    exact ⟨a, b, rfl, List.mem_range.1 h1, List.mem_range.1 h4, h5⟩
  · rintro ⟨a, b, rfl, h1, h2, h3⟩
    exact ⟨a, List.mem_range.2 h1, List.mem_map.2 ⟨b, List.mem_filter.2 ⟨List.mem_range.2 h2, h3⟩, rfl⟩⟩
theorem meas_lt {r : Int → Int → Option Int} {es : List Ed} {n : Int} {N : Nat} (h : fnd r es n N ≠ []) : meas N (zcE r n (fnd r es n N)) < meas N r := by
  unfold meas
  refine countP_lt (fun x hx hq => ?_) ?_
  · rw [zbD] at hq
    split at hq
    · cases hq
    · exact hq
  · obtain ⟨p, l, e⟩ := List.exists_cons_of_ne_nil h
    have hp : p ∈ fnd r es n N := by rw [e]; simp
    obtain ⟨a, b, rfl, h1, h2, h3⟩ := zda.1 hp
    refine ⟨(a, b), mem_allP.2 ⟨h1, h2⟩, ?_, ?_⟩
    · unfold zcu at h3
      rw [Bool.and_eq_true] at h3
      exact h3.1
    · rw [zbD, if_pos (.inl hp)]; rfl
theorem apart8 (n : Int) (m pg : Nat) (l : List (Int × Int)) (hl : l.length ≤ 100000) (fv : Value) (h0 : H) (hrow : Row h0 2 fv (l.map prL)) (hfm : ∀ b o n c, fv = .slice (some ⟨b, o, none⟩) n c → b ≠ m) (hml : m < h0.next) {P : Value → H → Prop} (r : Int → Int → Option Int)
    (hP : ∀ h', FrD (fun j => j = m) h0 h' → MapM h' m (rV (zcE r n l)) → OkV (sh (rI F) c_b_1 (K_b_1 (rI F)) (setL [p1, p3, p4] [ptr pg, .map (some m), .int .i64 n]) h') P) :
    ∀ (k i : Nat) (h : H), i + k = l.length → FrD (fun j => j = m) h0 h → MapM h m (rV (zcE r n (l.take i))) →
    OkV (sh (rI F) zg4 (K_b_8 (rI F)) (setL [p1, p3, p4, p70, p71, p72] [ptr pg, .map (some m), .int .i64 n, fv, .int .i64 (l.length : Int), .int .i64 (i : Int)]) h) P := by
  intro k
  induction k with
  | zero =>
    intro i h hi hf hm
    have e : i = l.length := by omega
    subst e
    rw [List.take_length] at hm
    rw [s_b_8]
    simp (disch := first | omega | (simp only [za, zb]; done) | (simp only [za, zb]; omega)) []
    exact hP h hf hm
  | succ k ih =>
    intro i h hi hf hm
    have hil : i < l.length := by omega
    have hx : (l.map prL)[i]? = some (prL l[i]) := by simp [hil]
    have htk : l.take (i + 1) = l.take i ++ [l[i]] := by rw [List.take_add_one, List.getElem?_eq_getElem hil]; rfl
    obtain ⟨b, o, cs, e, hv, hb, hg, htc⟩ := (hrow.frD hf hfm).index hx
    generalize l[i] = p at *
    obtain ⟨p1', p2'⟩ := p
    have hfn := hf.next
    obtain ⟨h1, eh1⟩ : ∃ h1, h1 = h.new (.cells [.int .i64 p1', .int .i64 p2'] 0) := ⟨_, rfl⟩
    have hf1 : Fr h h1 := by rw [eh1]; exact .new _ _
    have hn1 : h1.next = h.next + 1 := by rw [eh1]; simp
    have gp1 : h1.get h.next = some (.cells [.int .i64 p1', .int .i64 p2'] 0) := by rw [eh1]; simp
    obtain ⟨o1, e1, hm1⟩ := upd_ok (hm.fr (D := fun _ => False) hf1.D (by omega) (by simp)) p1' p2' (.int .i64 n)
    have gp2 : (h1.put m o1).get h.next = some (.cells [.int .i64 p1', .int .i64 p2'] 0) := by rw [zm (by omega)]; exact gp1
    obtain ⟨o2, e2, hm2⟩ := upd_ok hm1 p2' p1' (.int .i64 n)
    rw [put_put] at e2 hm2
    rw [rV_set _ n (p1', p2')] at hm2
    have := ih (i + 1) (h1.put m o2) (by omega) ((hf.trans hf1.D).put (.inr rfl) _) (by
      rw [htk]
      show MapM _ _ (rV ((l.take i ++ [(p1', p2')]).foldl (fun r p => setR r n p) r))
      rw [List.foldl_append]; exact hm2)
    rw [s_b_8]
    refine OkV.eq (this.lp (l_b_8 F _ _ _ _ _ _ _)) ?_
    have a1 : ∀ h' : H, zbf 2 1 (ptr h.next) (.int .i64 1) h' = some (.pointer (some ⟨h.next, 0 + 1 * 1, none⟩), h') := fun h' => rfl
    have a0 : ∀ h' : H, zbf 2 1 (ptr h.next) (.int .i64 0) h' = some (.pointer (some ⟨h.next, 0 + 0 * 1, none⟩), h') := fun h' => rfl
    simp (disch := first | omega | (simp only [za, zb]; done) | (simp only [za, zb]; omega)) [hil, hv, hg, htc, ← eh1, gp1, e1, gp2, zq, e2, zW, a1, a0]
theorem apart3 (es : List Ed) (hs : zY es) (hsz : es.length ≤ 1000) (N : Nat) (hN : N ≤ 200) (lb : Int) (r : Int → Int → Option Int) (n : Int) (hn : 1 ≤ n ∧ n ≤ 1000000) (m pg : Nat) (sl : Value) (h0 : H) (hrow : Row h0 3 sl (es.map edL)) (hm : MapM h0 m (rV r)) (hml : m < h0.next) (hgg : h0.get pg = some (.cells (gL (N : Int) lb sl) 0)) (hpg : pg < h0.next) (lo : Nat) (hlo : lo ≤ h0.next) (hmlo : m < lo) (hpglo : pg < lo) (hsllo : ∀ b o n c, sl = .slice (some ⟨b, o, none⟩) n c → b < lo) {P : Value → H → Prop}
    (hP : ∀ h' fv ob, FrD (fun j => lo ≤ j) h0 h' → Grow h' 2 fv ((fnd r es n N).map prL) ob → (∀ q, ob = some q → lo ≤ q) → OkV (sh (rI F) zgs (ziJ (rI F)) (setL [p1, p3, p4, p5] [ptr pg, .map (some m), .int .i64 n, fv]) h') P) :
    ∀ (k a : Nat) (h : H) (fv : Value) (ob : Option Nat), a + k = N → FrD (fun j => lo ≤ j) h0 h → Grow h 2 fv ((fnd r es n a).map prL) ob → (∀ q, ob = some q → lo ≤ q) →
    OkV (sh (rI F) zg7 (K_b_3 (rI F)) (setL [p1, p3, p4, p5, p18, p19] [ptr pg, .map (some m), .int .i64 n, fv, .int .i64 (N : Int), .int .i64 (a : Int)]) h) P := by
  intro k
  induction k with
  | zero =>
    intro a h fv ob ha hf hg hob
    have e : a = N := by omega
    subst e
    rw [s_b_3]
    simp (disch := first | omega | (simp only [za, zb]; done) | (simp only [za, zb]; omega)) []
    exact hP h fv ob hf hg hob
  | succ k ih =>
    intro a h fv ob ha hf hg hob
    have haN : a < N := by omega
    have hfn := hf.next
    have hfl := fnd_len r es n (N := N) a (by omega)
    have hNN : a * N ≤ 200 * 200 := Nat.mul_le_mul (by omega) hN
    rw [s_b_3]
    have := apart5 es hs hsz N hN lb r n hn m pg sl a haN (fnd r es n a) (by omega) h (hrow.frD hf (fun b o n c e => by have := hsllo b o n c e; omega)) (hm.fr hf hml (by omega)) (by omega) ((hf.get _ hpg (by omega)).trans hgg) (by omega) lo (by omega) hmlo hpglo hsllo (P := P)
      (fun h' fv' ob' hf' hg' hob' => by
        rw [s_b_4]
        have := ih (a + 1) h' fv' ob' (by omega) (hf.trans hf') (by rw [fnd_succ]; exact hg') hob'
        refine OkV.eq (this.lp (l_b_3 F _ _ _ _ _ _ _)) ?_
        simp (disch := first | omega | (simp only [za, zb]; done) | (simp only [za, zb]; omega)) [zW]) a 0 h fv ob (by omega) (.refl _ _) (by simpa [fndA] using hg) hob
    refine OkV.eq (this.lp (l_b_5 F _ _ _ _ _ _ _ _ _ _)) ?_
    simp (disch := first | omega | (simp only [za, zb]; done) | (simp only [za, zb]; omega)) [haN]
theorem apart0 (es : List Ed) (hs : zY es) (hsz : es.length ≤ 1000) (N : Nat) (hN : N ≤ 200) (lb : Int) (m pg : Nat) (sl : Value) (h0 : H) (hrow : Row h0 3 sl (es.map edL)) (hml : m < h0.next) (hgg : h0.get pg = some (.cells (gL (N : Int) lb sl) 0)) (hpg : pg < h0.next) (hsl : ∀ b o n c, sl = .slice (some ⟨b, o, none⟩) n c → b ≠ m) (hpm : pg ≠ m) {P : Value → H → Prop}
    (hP : ∀ h' k, FrD (fun j => j = m) h0 h' → MapM h' m (rV (rN es N k)) → fnd (rN es N k) es ((k : Int) + 1) N = [] → P (.map (some m)) h') :
    ∀ (μ k : Nat) (h : H), meas N (rN es N k) = μ → k + μ ≤ 100000 → FrD (fun j => j = m) h0 h → MapM h m (rV (rN es N k)) →
    OkV (sh (rI F) zg8 (K_b_0 (rI F)) (setL [p1, p3, p4] [ptr pg, .map (some m), .int .i64 ((k : Int) + 1)]) h) P := by
  intro μ
  induction μ using Nat.strongRecOn with
  | _ μ ih =>
    intro k h hμ hk hf hm
    have hfn := hf.next
    have gpg := (hf.get _ hpg hpm).trans hgg
    have hrow1 := hrow.frD hf hsl
    rw [s_b_0]
    have := apart3 es hs hsz N hN lb (rN es N k) ((k : Int) + 1) (by omega) m pg sl h hrow1 hm (by omega) gpg (by omega) h.next (Nat.le_refl _) (by omega) (by omega) (fun b o n c e => hrow1.lt e) (P := P)
      (fun h' fv ob hf' hg' hob' => by
        have hfn' := hf'.next
        have hff : Fr h h' := hf'.fr (by omega)
        have hv := hg'.slvM
        rw [s_b_2]
        by_cases hnil : fnd (rN es N k) es ((k : Int) + 1) N = []
        · have hl0 : (fnd (rN es N k) es ((k : Int) + 1) N).length = 0 := by rw [hnil]; rfl
          refine OkV.eq (OkV.val (hP h' k (hf.trans hff.D) (hm.fr (D := fun _ => False) hff.D (by omega) (by simp)) hnil)) ?_
          simp (disch := first | omega | (simp only [za, zb]; done) | (simp only [za, zb]; omega)) [hv.len, hl0]
        · have hl0 : ¬ ((fnd (rN es N k) es ((k : Int) + 1) N).length : Int) = 0 := by
            have := List.length_pos_iff.2 hnil; omega
          have hfl := fnd_len (rN es N k) es ((k : Int) + 1) (N := N) N (Nat.le_refl _)
          have hNN : N * N ≤ 200 * 200 := Nat.mul_le_mul hN hN
          have hlt := meas_lt hnil
          have h8 := apart8 ((k : Int) + 1) m pg (fnd (rN es N k) es ((k : Int) + 1) N) (by omega) fv h' (hg'.row (by omega)) (fun b o n c e => by have := hob' _ (hg'.block e); omega) (by omega) (P := P) (rN es N k)
            (fun h'' hf'' hm'' => by
              rw [s_b_1]
              have := ih (meas N (rN es N (k + 1))) (by rw [← hμ]; exact hlt) (k + 1) h'' rfl (by
                have : meas N (rN es N (k + 1)) < μ := by rw [← hμ]; exact hlt
                omega) ((hf.trans hff.D).trans hf'') hm''
              refine OkV.eq (this.lp (l_b_0 F _ _ _ _)) ?_
              simp (disch := first | omega | (simp only [za, zb]; done) | (simp only [za, zb]; omega)) [zW]) (fnd (rN es N k) es ((k : Int) + 1) N).length 0 h' (by omega) (.refl _ _) (by simpa [zcE] using hm.fr (D := fun _ => False) hff.D (by omega) (by simp))
          refine OkV.eq (h8.lp (l_b_8 F _ _ _ _ _ _ _)) ?_
          have hl0' : ¬ (fnd (rN es N k) es ((k : Int) + 1) N) = [] := hnil
          simp (disch := first | omega | (simp only [za, zb]; done) | (simp only [za, zb]; omega)) [hv.len, hl0, hl0']) N 0 h (.slice none 0 0) none (by omega) (.refl _ _) (by simpa [fnd] using Grow.nil) (by simp)
    refine OkV.eq (this.lp (l_b_3 F _ _ _ _ _ _ _)) ?_
    simp (disch := first | omega | (simp only [za, zb]; done) | (simp only [za, zb]; omega)) [gpg]
theorem meas_le (N : Nat) (r : Int → Int → Option Int) : meas N r ≤ N * N := by
  have : (allP N).length ≤ N * N := by
    unfold allP
    have key : ∀ n, n ≤ N → ((List.range n).flatMap fun a => (List.range a).map fun b => (a, b)).length ≤ n * N := by
      intro n
      induction n with
      | zero => intro _; simp
      | succ n ih =>
        intro h
        rw [List.range_succ, List.flatMap_append, List.length_append, Nat.succ_mul]
        have := ih (by omega)
        simp only [List.flatMap_cons, List.flatMap_nil, List.append_nil, List.length_map, List.length_range]
        omega
    exact key N (Nat.le_refl _)
  exact Nat.le_trans List.countP_le_length this
theorem apart_ok (es : List Ed) (hs : zY es) (hsz : es.length ≤ 1000) (N : Nat) (hN : N ≤ 200) (lb : Int) (sl : Value) (h : H) (hrow : Row h 3 sl (es.map edL)) {P : Value → H → Prop}
    (hP : ∀ h' m k, Fr h h' → h.next ≤ m → m < h'.next → MapM h' m (rV (rN es N k)) → fnd (rN es N k) es ((k : Int) + 1) N = [] → P (.map (some m)) h') : Ret F (fnV n_b) [gV (N : Int) lb sl] h P := by
  refine Ret.fn F_b 1 (by decide) ?_
  rw [s_b]
  obtain ⟨h2, eh2⟩ : ∃ h2, h2 = (h.new (.cells (gL (N : Int) lb sl) 0)).new (.map [] 0) := ⟨_, rfl⟩
  have hf2 : Fr h h2 := by rw [eh2]; exact (Fr.new _ _).newR _
  have hn2 : h2.next = h.next + 2 := by rw [eh2]; simp
  have hNN : N * N ≤ 200 * 200 := Nat.mul_le_mul hN hN
  have := apart0 es hs hsz N hN lb (h.next + 1) h.next sl h2 (hrow.fr hf2) (by omega) (by rw [eh2]; simp (disch := omega)) (by omega) (fun b o n c e => by have := hrow.lt e; omega) (by omega) (P := P) (fun h' k hf' hm' hk => hP h' (h.next + 1) k ⟨by have := hf'.next; omega, fun i hi => (hf'.get _ (by omega) (by omega)).trans (hf2.get _ hi)⟩ (by omega) (by have := hf'.next; omega) hm' hk) (meas N (rN es N 0)) 0 h2 rfl (by have := meas_le N (rN es N 0); omega) (.refl _ _) ⟨[], 0, by rw [eh2]; simp (disch := omega), .nil⟩
  refine OkV.eq (this.lp (l_b_0 F _ _ _ _)) ?_
  rw [eh2]
  simp (disch := first | omega | (simp only [za, zb]; done) | (simp only [za, zb]; omega)) []
end Go.Ideal.J
namespace Go.Ideal.J
open Go Go.Ideal
theorem both_ok (st lb st' lb' : Int) (es fs : List Ed) (sl sl' : Value) (h : H) (hrow : Row h 3 sl (es.map edL)) (hrow' : Row h 3 sl' (fs.map edL)) :
    ∃ h', zbv F (fnV n_J) [gV st lb sl, gV st' lb' sl'] h = some (.bool (chk st lb es && chk st' lb' fs && decide (lb = lb')), h') ∧ Fr h h' := by
  obtain ⟨h2, eh2⟩ : ∃ h2, h2 = (h.new (.cells (gL st lb sl) 0)).new (.cells (gL st' lb' sl') 0) := ⟨_, rfl⟩
  have hf2 : Fr h h2 := by rw [eh2]; exact (Fr.new _ _).newR _
  have hn2 : h2.next = h.next + 2 := by rw [eh2]; simp
  have g0 : h2.get h.next = some (.cells (gL st lb sl) 0) := by rw [eh2]; simp (disch := omega)
  have g1 : h2.get (h.next + 1) = some (.cells (gL st' lb' sl') 0) := by rw [eh2]; simp (disch := omega)
  have hv := hrow.slvM
  have hv' := hrow'.slvM
  obtain ⟨h3, e3, hf3⟩ := zcz st lb sl es h2 (hrow.fr hf2)
  have hfn3 := hf3.next
  have g03 := (hf3.get _ (by omega)).trans g0
  have g13 := (hf3.get _ (by omega)).trans g1
  cases hc : chk st lb es with
  | false =>
    rw [hc] at e3
    refine ⟨h3, zbg F_J 2 (by decide) ?_, hf2.trans hf3⟩
    rw [s_J]
    simp (disch := first | omega | (simp only [za, zb]; done) | (simp only [za, zb]; omega)) [hv.clean, hv.take, hv'.clean, hv'.take, ← eh2, g0, g1, e3, erk]
  | true =>
    rw [hc] at e3
    obtain ⟨h4, e4, hf4⟩ := zcz st' lb' sl' fs h3 ((hrow'.fr hf2).fr hf3)
    have hfn4 := hf4.next
    have g04 := (hf4.get _ (by omega)).trans g03
    have g14 := (hf4.get _ (by omega)).trans g13
    refine ⟨h4, zbg F_J 2 (by decide) ?_, (hf2.trans hf3).trans hf4⟩
    rw [s_J]
    cases hc' : chk st' lb' fs with
    | false =>
      rw [hc'] at e4
      simp (disch := first | omega | (simp only [za, zb]; done) | (simp only [za, zb]; omega)) [hv.clean, hv.take, hv'.clean, hv'.take, ← eh2, g0, g1, e3, erk, g13, e4]
    | true =>
      rw [hc'] at e4
      simp (disch := first | omega | (simp only [za, zb]; done) | (simp only [za, zb]; omega)) [hv.clean, hv.take, hv'.clean, hv'.take, ← eh2, g0, g1, e3, erk, g13, e4, g04, g14]
end Go.Ideal.J
namespace Go.Ideal.J
open Go Go.Ideal
end Go.Ideal.J
namespace Go.Ideal.J
open Go Go.Ideal
def IsBis (es : List Ed) (R : Int → Int → Prop) : Prop :=
  ∀ a b, R a b → (∀ x ∈ outs es a, ∃ t ∈ tos es b x.2.2, R x.2.1 t) ∧ (∀ y ∈ outs es b, ∃ t ∈ tos es a y.2.2, R t y.2.1)
def Bis (es : List Ed) (a b : Int) : Prop := ∃ R, IsBis es R ∧ R a b
theorem Bis.symm {es : List Ed} {a b : Int} (h : Bis es a b) : Bis es b a := by
  obtain ⟨R, hR, h⟩ := h
  exact ⟨fun x y => R y x, fun x y hxy => ⟨(hR y x hxy).2, (hR y x hxy).1⟩, h⟩
theorem zfN (es : List Ed) : IsBis es (Bis es) := by
  rintro a b ⟨R, hR, h⟩
  obtain ⟨h1, h2⟩ := hR a b h
  refine ⟨fun x hx => ?_, fun y hy => ?_⟩
  · obtain ⟨t, ht, hr⟩ := h1 x hx; exact ⟨t, ht, R, hR, hr⟩
  · obtain ⟨t, ht, hr⟩ := h2 y hy; exact ⟨t, ht, R, hR, hr⟩
theorem zbE {es : List Ed} {a : Int} {x : Ed} : x ∈ outs es a ↔ x ∈ es ∧ x.1 = a := by
  unfold outs; rw [List.mem_filter]; simp
theorem zbR {es : List Ed} {N : Nat} : ∀ {k : Nat} {a b : Int} {v : Int}, rN es N k a b = some v → v ≤ k ∧ a ≠ b ∧ ¬ Bis es a b
  | 0, a, b, v, h => by cases h
  | k + 1, a, b, v, h => by
    have h : zcE (rN es N k) ((k : Int) + 1) (fnd (rN es N k) es ((k : Int) + 1) N) a b = some v := h
    rw [zbD] at h
    have step : ∀ a b : Int, (a, b) ∈ fnd (rN es N k) es ((k : Int) + 1) N → a ≠ b ∧ ¬ Bis es a b := by
      intro a b hm
      obtain ⟨c, d, e, h1, h2, h3⟩ := zda.1 hm
      cases e
      refine ⟨by omega, fun hb => ?_⟩
      unfold zcu at h3
      simp only [Bool.and_eq_true, Bool.or_eq_true] at h3
      have key : ∀ p q : Int, (zP (rN es N k) es p q ((k : Int) + 1 - 1)).isSome = true → ¬ Bis es p q := by
        intro p q hf hb
        obtain ⟨x, hx⟩ := Option.isSome_iff_exists.1 hf
        have h4 := List.find?_some hx
        have h5 := List.mem_of_find?_eq_some hx
        obtain ⟨t, ht, hbt⟩ := (zfN es p q hb).1 x h5
        have h6 := List.all_eq_true.1 h4 t ht
        unfold zbG at h6
        cases hr : rN es N k x.2.1 t with
        | none => rw [hr] at h6; simp at h6
        | some u => exact (zbR hr).2.2 hbt
      rcases h3.2 with h | h
      · exact key _ _ h hb
      · exact key _ _ h hb.symm
    split at h
    · rename_i hm
      cases h
      refine ⟨by omega, ?_⟩
      rcases hm with hm | hm
      · exact step a b hm
      · obtain ⟨h1, h2⟩ := step b a hm
        exact ⟨fun e => h1 e.symm, fun hb => h2 hb.symm⟩
    · obtain ⟨h1, h2⟩ := zbR h
      exact ⟨by omega, h2⟩
theorem zfj {es : List Ed} {N : Nat} : ∀ (k : Nat) (a b : Int), rN es N k a b = rN es N k b a
  | 0, _, _ => rfl
  | k + 1, a, b => by
    show zcE _ _ _ a b = zcE _ _ _ b a
    rw [zbD, zbD, zfj k a b]
    congr 1
    exact propext Or.comm
theorem rN_none {es : List Ed} {N k : Nat} (hin : inB (N : Int) es) (hk : fnd (rN es N k) es ((k : Int) + 1) N = []) {a b : Int} (ha : 0 ≤ a ∧ a < N) (hb : 0 ≤ b ∧ b < N) : (rN es N k a b).isNone = true ↔ Bis es a b := by
  constructor
  · intro h0
    refine ⟨fun a b => 0 ≤ a ∧ a < N ∧ 0 ≤ b ∧ b < N ∧ rN es N k a b = none, ?_, ha.1, ha.2, hb.1, hb.2, by simpa using h0⟩
    have half : ∀ a b : Int, 0 ≤ a ∧ a < N ∧ 0 ≤ b ∧ b < N ∧ rN es N k a b = none → zP (rN es N k) es a b k = none → ∀ x ∈ outs es a, ∃ t ∈ tos es b x.2.2, 0 ≤ x.2.1 ∧ x.2.1 < N ∧ 0 ≤ t ∧ t < N ∧ rN es N k x.2.1 t = none := by
      intro a b hab hf x hx
      have h1 := List.find?_eq_none.1 hf x hx
      have h2 : ∃ t ∈ tos es b x.2.2, zbG (rN es N k) k x.2.1 t = false := by
        rw [Bool.not_eq_true] at h1
        unfold zfv at h1
        rw [List.all_eq_false] at h1
        obtain ⟨t, ht, hh⟩ := h1
        exact ⟨t, ht, by simpa using hh⟩
      obtain ⟨t, ht, htt⟩ := h2
      have hxi := hin x (zbE.1 hx).1
      obtain ⟨y, hy, _, _, rfl⟩ := zc9.1 ht
      have hyi := hin y hy
      refine ⟨_, ht, hxi.2.2.1, hxi.2.2.2, hyi.2.2.1, hyi.2.2.2, ?_⟩
      cases hr : rN es N k x.2.1 y.2.1 with
      | none => rfl
      | some u =>
        obtain ⟨h3, h4, _⟩ := zbR hr
        unfold zbG at htt
        rw [hr] at htt
        simp [h3, h4] at htt
    have first_nil : ∀ a b : Int, 0 ≤ a ∧ a < N ∧ 0 ≤ b ∧ b < N ∧ rN es N k a b = none → a ≠ b → zP (rN es N k) es a b k = none ∧ zP (rN es N k) es b a k = none := by
      intro a b ⟨h1, h2, h3, h4, h5⟩ hne
      obtain ⟨a, rfl⟩ := Int.eq_ofNat_of_zero_le h1
      obtain ⟨b, rfl⟩ := Int.eq_ofNat_of_zero_le h3
      have ek : ((k : Int) + 1 - 1) = k := by omega
      have main : ∀ a b : Nat, a < N → b < a → rN es N k a b = none → zP (rN es N k) es a b k = none ∧ zP (rN es N k) es b a k = none := by
        intro a b h2 hlt h5
        have hc : zcu (rN es N k) es ((k : Int) + 1) a b = false := by
          rw [Bool.eq_false_iff]
          intro hc
          have : ((a : Int), (b : Int)) ∈ fnd (rN es N k) es ((k : Int) + 1) N := zda.2 ⟨a, b, rfl, h2, hlt, hc⟩
          rw [hk] at this; cases this
        unfold zcu at hc
        rw [h5, ek] at hc
        simp at hc
        exact hc
      rcases Nat.lt_or_gt_of_ne (fun e : a = b => hne (by rw [e])) with h | h
      · have := main b a (by omega) h (by rw [zfj]; exact h5)
        exact ⟨this.2, this.1⟩
      · exact main a b (by omega) h h5
    rintro a b hab
    by_cases hne : a = b
    · subst hne
      refine ⟨fun x hx => ?_, fun x hx => ?_⟩
      · have hx' := zbE.1 hx
        have hxi := hin x hx'.1
        refine ⟨x.2.1, zc9.2 ⟨x, hx'.1, hx'.2, rfl, rfl⟩, hxi.2.2.1, hxi.2.2.2, hxi.2.2.1, hxi.2.2.2, ?_⟩
        cases hr : rN es N k x.2.1 x.2.1 with
        | none => rfl
        | some u => exact absurd rfl (zbR hr).2.1
      · have hx' := zbE.1 hx
        have hxi := hin x hx'.1
        refine ⟨x.2.1, zc9.2 ⟨x, hx'.1, hx'.2, rfl, rfl⟩, hxi.2.2.1, hxi.2.2.2, hxi.2.2.1, hxi.2.2.2, ?_⟩
        cases hr : rN es N k x.2.1 x.2.1 with
        | none => rfl
        | some u => exact absurd rfl (zbR hr).2.1
    · obtain ⟨f1, f2⟩ := first_nil a b hab hne
      refine ⟨half a b hab f1, fun y hy => ?_⟩
      obtain ⟨t, ht, h1, h2, h3, h4, h5⟩ := half b a ⟨hab.2.2.1, hab.2.2.2.1, hab.1, hab.2.1, by rw [zfj]; exact hab.2.2.2.2⟩ f2 y hy
      exact ⟨t, ht, h3, h4, h1, h2, by rw [zfj]; exact h5⟩
  · intro hb'
    cases hr : rN es N k a b with
    | none => rfl
    | some v => exact absurd hb' (zbR hr).2.2
end Go.Ideal.J
namespace Go.Ideal.J
open Go Go.Ideal
section
variable {es fs : List Ed} {N M K : Nat}
end
end Go.Ideal.J
namespace Go.Ideal.J
open Go Go.Ideal
theorem known_ok' (h : H) : zbv F (fnV n_A) [] h = some (.bool true, h) := by
  refine zbg F_A 0 (by decide) ?_
  rfl
end Go.Ideal.J
namespace Go.Ideal.J
open Go Go.Ideal
end Go.Ideal.J
namespace Go.Ideal.J
open Go Go.Ideal
structure RC2 (es : List Ed) (N : Nat) (h : H) (tl tr : Value) (lvs rvs : List Value) (R : Int → Int → Int) : Prop where
  rl : Row h 1 tl (lvs.map fun v => [v])
  rr : Row h 1 tr (rvs.map fun v => [v])
  lst : ∀ a : Nat, a < N → ∃ lv, lvs[a]? = some lv ∧ Row h 3 lv ((outs es a).map edL)
  mat : ∀ a : Nat, a < N → ∃ (q : Nat) (is : List Int), rvs[a]? = some (slF q N) ∧ h.get q = some (.cells (is.map fun i => .int .i64 i) 0) ∧ is.length = N ∧ (∀ c : Nat, c < N → is[c]? = some (R a c)) ∧ q < h.next
theorem RC2.fr {es : List Ed} {N : Nat} {h h' : H} {tl tr : Value} {lvs rvs : List Value} {R : Int → Int → Int} (r : RC2 es N h tl tr lvs rvs R) (hf : Fr h h') : RC2 es N h' tl tr lvs rvs R where
  rl := r.rl.fr hf
  rr := r.rr.fr hf
  lst := fun a ha => by obtain ⟨lv, h1, h2⟩ := r.lst a ha; exact ⟨lv, h1, h2.fr hf⟩
  mat := fun a ha => by
    obtain ⟨q, is, h1, h2, h3, h4, h5⟩ := r.mat a ha
    exact ⟨q, is, h1, (hf.get _ h5).trans h2, h3, h4, Nat.lt_of_lt_of_le h5 hf.next⟩
def badR (R : Int → Int → Int) (most u t : Int) : Bool := decide (R u t = 0) || (decide (0 ≤ most) && decide (most < R u t))
def ansR (R : Int → Int → Int) (es : List Ed) (x : Ed) (b most : Int) : Bool := (tos es b x.2.2).all fun t => !badR R most x.2.1 t
def splitR (R : Int → Int → Int) (es : List Ed) (a b : Int) : Bool := (outs es a).any fun x => ansR R es x b (-1)
end Go.Ideal.J
namespace Go.Ideal.J
open Go Go.Ideal
def condZ (R : Int → Int → Int) (es : List Ed) (a b : Int) : Bool := decide (R a b = 0) && (splitR R es a b || splitR R es b a)
def fzA (R : Int → Int → Int) (es : List Ed) (a b : Nat) : List (Int × Int) := ((List.range b).filter fun (b : Nat) => condZ R es (a : Int) (b : Int)).map fun (b : Nat) => ((a : Int), (b : Int))
def fz (R : Int → Int → Int) (es : List Ed) (N a : Nat) : List (Int × Int) := (List.range a).flatMap fun a => fzA R es a N
end Go.Ideal.J
namespace Go.Ideal.J
open Go Go.Ideal
theorem map_i64 : ∀ {l l' : List Int}, l.map (fun i => Value.int .i64 i) = l'.map (fun i => Value.int .i64 i) → l = l'
  | [], [], _ => rfl
  | [], _ :: _, h => by simp at h
  | _ :: _, [], h => by simp at h
  | x :: l, y :: l', h => by have h := List.cons.inj h; rw [(Value.int.inj h.1).2, map_i64 h.2]
structure RC3 (es : List Ed) (N : Nat) (lo : Nat) (h : H) (tl tr : Value) (lvs : List Value) (qs : List Nat) (R : Int → Int → Int) : Prop where
  rl : Row h 1 tl (lvs.map fun v => [v])
  rr : Row h 1 tr (qs.map fun q => [slF q N])
  lst : ∀ a : Nat, a < N → ∃ lv, lvs[a]? = some lv ∧ Row h 3 lv ((outs es a).map edL) ∧ ∀ b o n c, lv = .slice (some ⟨b, o, none⟩) n c → b ∉ qs
  nl : ∀ b o n c, tl = .slice (some ⟨b, o, none⟩) n c → b ∉ qs
  nr : ∀ b o n c, tr = .slice (some ⟨b, o, none⟩) n c → b ∉ qs
  nd : qs.Nodup
  ql : ∀ q ∈ qs, lo ≤ q ∧ q < h.next
  len : qs.length = N
  mat : ∀ (a q : Nat), qs[a]? = some q → ∃ is : List Int, h.get q = some (.cells (is.map fun i => .int .i64 i) 0) ∧ is.length = N ∧ ∀ c : Nat, c < N → is[c]? = some (R a c)
theorem RC3.two {es : List Ed} {N lo : Nat} {h : H} {tl tr : Value} {lvs : List Value} {qs : List Nat} {R : Int → Int → Int} (r : RC3 es N lo h tl tr lvs qs R) : RC2 es N h tl tr lvs (qs.map fun q => slF q N) R where
  rl := r.rl
  rr := by rw [List.map_map]; exact r.rr
  lst := fun a ha => by obtain ⟨lv, h1, h2, _⟩ := r.lst a ha; exact ⟨lv, h1, h2⟩
  mat := fun a ha => by
    have hq : qs[a]? = some (qs[a]'(by rw [r.len]; exact ha)) := List.getElem?_eq_getElem _
    obtain ⟨is, h1, h2, h3⟩ := r.mat a _ hq
    exact ⟨_, is, by rw [List.getElem?_map, hq]; rfl, h1, h2, h3, (r.ql _ (List.mem_of_getElem? hq)).2⟩
theorem RC3.fr {es : List Ed} {N lo : Nat} {h h' : H} {tl tr : Value} {lvs : List Value} {qs : List Nat} {R : Int → Int → Int} (r : RC3 es N lo h tl tr lvs qs R) (hf : Fr h h') : RC3 es N lo h' tl tr lvs qs R where
  rl := r.rl.fr hf
  rr := r.rr.fr hf
  lst := fun a ha => by obtain ⟨lv, h1, h2, h3⟩ := r.lst a ha; exact ⟨lv, h1, h2.fr hf, h3⟩
  nl := r.nl
  nr := r.nr
  nd := r.nd
  ql := fun q hq => ⟨(r.ql q hq).1, Nat.lt_of_lt_of_le (r.ql q hq).2 hf.next⟩
  len := r.len
  mat := fun a q hq => by
    obtain ⟨is, h2, h3, h4⟩ := r.mat a q hq
    exact ⟨is, (hf.get _ (r.ql q (List.mem_of_getElem? hq)).2).trans h2, h3, h4⟩
def updR (R : Int → Int → Int) (a b n : Int) : Int → Int → Int := fun c d => if c = a ∧ d = b then n else R c d
theorem RC3.set {es : List Ed} {N lo : Nat} {h : H} {tl tr : Value} {lvs : List Value} {qs : List Nat} {R : Int → Int → Int} (r : RC3 es N lo h tl tr lvs qs R) {a c q : Nat} (ha : qs[a]? = some q) (hc : c < N) (n : Int) {is : List Int} (hg : h.get q = some (.cells (is.map fun i => .int .i64 i) 0)) :
    RC3 es N lo (h.put q (.cells ((is.set c n).map fun i => .int .i64 i) 0)) tl tr lvs qs (updR R a c n) := by
  have hqm := List.mem_of_getElem? ha
  have hf : FrD (fun j => j ∈ qs) h (h.put q (.cells ((is.set c n).map fun i => .int .i64 i) 0)) := (FrD.refl _ h).put (.inr hqm) _
  exact {
    rl := r.rl.frD hf (fun b o n c e hd => r.nl b o n c e hd)
    rr := r.rr.frD hf (fun b o n c e hd => r.nr b o n c e hd)
    lst := fun a ha => by obtain ⟨lv, h1, h2, h3⟩ := r.lst a ha; exact ⟨lv, h1, h2.frD hf (fun b o n c e hd => h3 b o n c e hd), h3⟩
    nl := r.nl
    nr := r.nr
    nd := r.nd
    ql := fun q' hq => by rw [zb]; exact r.ql q' hq
    len := r.len
    mat := fun a' q' hq => by
      obtain ⟨is', h2, h3, h4⟩ := r.mat a' q' hq
      by_cases e : a' = a
      · subst e
        rw [ha] at hq; cases hq
        rw [hg] at h2
        have hii : is' = is := map_i64 (IObj.cells.inj (Option.some.inj h2)).1.symm
        subst hii
        refine ⟨is'.set c n, by simp, by simpa using h3, fun d hd => ?_⟩
        rw [List.getElem?_set]
        unfold updR
        by_cases e : c = d
        · subst e; rw [if_pos rfl, if_pos (by omega), if_pos ⟨rfl, rfl⟩]
        · rw [if_neg e, if_neg (by omega)]; exact h4 d hd
      · have hne : q' ≠ q := by
          intro e2; subst e2
          have h5 : qs[a']? = qs[a]? := by rw [hq, ha]
          have hl : a < qs.length := by
            rcases Nat.lt_or_ge a qs.length with h' | h'
            · exact h'
            · rw [List.getElem?_eq_none h'] at ha; cases ha
          exact e ((List.getElem?_inj hl r.nd).1 h5.symm).symm
        refine ⟨is', by rw [zm (hne)]; exact h2, h3, fun d hd => ?_⟩
        unfold updR
        rw [if_neg (by omega)]; exact h4 d hd }
end Go.Ideal.J
namespace Go.Ideal.J
open Go Go.Ideal
end Go.Ideal.J
namespace Go.Ideal.J
open Go Go.Ideal
def RZ (es : List Ed) (N k : Nat) (a b : Int) : Int := (rN es N k a b).getD 0
theorem zhI {es : List Ed} {N : Nat} : ∀ {k : Nat} {a b : Int} {v : Int}, rN es N k a b = some v → 1 ≤ v
  | 0, a, b, v, h => by cases h
  | k + 1, a, b, v, h => by
    have h : zcE (rN es N k) ((k : Int) + 1) (fnd (rN es N k) es ((k : Int) + 1) N) a b = some v := h
    rw [zbD] at h
    split at h
    · cases h; omega
    · exact zhI h
theorem RZ_zero {es : List Ed} {N k : Nat} {a b : Int} : RZ es N k a b = 0 ↔ rN es N k a b = none := by
  unfold RZ
  cases h : rN es N k a b with
  | none => simp
  | some v => have := zhI h; simp; omega
theorem ans_told (es : List Ed) (N k : Nat) (x : Ed) (b : Int) : ansR (RZ es N k) es x b (-1) = zfv (rN es N k) es x b k := by
  unfold ansR zfv
  congr 1
  funext t
  unfold badR zbG
  cases h : rN es N k x.2.1 t with
  | none => simp [RZ_zero.2 h]
  | some v =>
    have h0 : ¬ RZ es N k x.2.1 t = 0 := fun e => by rw [RZ_zero.1 e] at h; cases h
    have := (zbR h).1
    simp [h0, this, (zbR h).2.1]
theorem zhX {α : Type} (p : α → Bool) : ∀ l : List α, (l.find? p).isSome = l.any p
  | [] => rfl
  | a :: l => by
    rw [List.find?_cons, List.any_cons]
    cases h : p a
    · simpa using zhX p l
    · rfl
theorem split_eq (es : List Ed) (N k : Nat) (a b : Int) : splitR (RZ es N k) es a b = (zP (rN es N k) es a b k).isSome := by
  unfold splitR zP
  rw [zhX]
  congr 1
  funext x
  exact ans_told es N k x b
theorem cond_eq (es : List Ed) (N k : Nat) (a b : Int) : condZ (RZ es N k) es a b = zcu (rN es N k) es ((k : Int) + 1) a b := by
  unfold condZ zcu
  rw [split_eq, split_eq, show ((k : Int) + 1 - 1) = k by omega]
  congr 1
  cases h : rN es N k a b with
  | none => simp [RZ_zero.2 h]
  | some v =>
    have h0 : ¬ RZ es N k a b = 0 := fun e => by rw [RZ_zero.1 e] at h; cases h
    simp [h0]
theorem cond_symm (es : List Ed) (N k : Nat) (n a b : Int) : zcu (rN es N k) es n a b = zcu (rN es N k) es n b a := by
  unfold zcu
  rw [zfj k a b, Bool.or_comm]
theorem cond_self (es : List Ed) (N k : Nat) (n a : Int) : zcu (rN es N k) es n a a = false := by
  unfold zcu
  have : zP (rN es N k) es a a (n - 1) = none := by
    unfold zP
    rw [List.find?_eq_none]
    intro x hx hh
    have hxo := zbE.1 hx
    have := List.all_eq_true.1 hh x.2.1 (zc9.2 ⟨x, hxo.1, hxo.2, rfl, rfl⟩)
    unfold zbG at this
    cases h : rN es N k x.2.1 x.2.1 with
    | none => rw [h] at this; simp at this
    | some v => exact absurd rfl (zbR h).2.1
  rw [this]; simp
theorem mem_fz {R : Int → Int → Int} {es : List Ed} {N : Nat} {p : Int × Int} : p ∈ fz R es N N ↔ ∃ a b : Nat, p = ((a : Int), (b : Int)) ∧ a < N ∧ b < N ∧ condZ R es a b = true := by
  unfold fz fzA
  rw [List.mem_flatMap]
  constructor
  · rintro ⟨a, h1, h2⟩
    obtain ⟨b, h3, rfl⟩ := List.mem_map.1 h2
    obtain ⟨h4, h5⟩ := List.mem_filter.1 h3
    exact ⟨a, b, rfl, List.mem_range.1 h1, List.mem_range.1 h4, h5⟩
  · rintro ⟨a, b, rfl, h1, h2, h3⟩
    exact ⟨a, List.mem_range.2 h1, List.mem_map.2 ⟨b, List.mem_filter.2 ⟨List.mem_range.2 h2, h3⟩, rfl⟩⟩
theorem fz_fnd (es : List Ed) (N k : Nat) (a b : Int) : (a, b) ∈ fz (RZ es N k) es N N ↔ (a, b) ∈ fnd (rN es N k) es ((k : Int) + 1) N ∨ (b, a) ∈ fnd (rN es N k) es ((k : Int) + 1) N := by
  constructor
  · intro h
    obtain ⟨c, d, e, h1, h2, h3⟩ := mem_fz.1 h
    cases e
    rw [cond_eq] at h3
    rcases Nat.lt_trichotomy c d with hl | hl | hl
    · exact .inr (zda.2 ⟨d, c, rfl, h2, hl, by rw [cond_symm]; exact h3⟩)
    · subst hl; rw [cond_self] at h3; cases h3
    · exact .inl (zda.2 ⟨c, d, rfl, h1, hl, h3⟩)
  · rintro (h | h)
    · obtain ⟨c, d, e, h1, h2, h3⟩ := zda.1 h
      cases e
      exact mem_fz.2 ⟨c, d, rfl, h1, by omega, by rw [cond_eq]; exact h3⟩
    · obtain ⟨c, d, e, h1, h2, h3⟩ := zda.1 h
      cases e
      exact mem_fz.2 ⟨d, c, rfl, by omega, h1, by rw [cond_eq, cond_symm]; exact h3⟩
theorem fz_nil (es : List Ed) (N k : Nat) : fz (RZ es N k) es N N = [] ↔ fnd (rN es N k) es ((k : Int) + 1) N = [] := by
  constructor
  · intro h
    cases h2 : fnd (rN es N k) es ((k : Int) + 1) N with
    | nil => rfl
    | cons p l =>
      have : p ∈ fz (RZ es N k) es N N := (fz_fnd es N k p.1 p.2).2 (.inl (by rw [h2]; simp))
      rw [h] at this; cases this
  · intro h
    cases h2 : fz (RZ es N k) es N N with
    | nil => rfl
    | cons p l =>
      have : (p.1, p.2) ∈ fz (RZ es N k) es N N := by rw [h2]; simp
      rw [fz_fnd, h] at this
      rcases this with h | h <;> cases h
end Go.Ideal.J
namespace Go.Ideal.J
open Go Go.Ideal
end Go.Ideal.J
namespace Go.Ideal.J
open Go Go.Ideal
inductive Fml where | mk (op lab : Int) (kids : List Fml)
mutual
def sz : Fml → Nat
  | .mk _ _ ks => 1 + szs ks
def szs : List Fml → Nat
  | [] => 0
  | k :: ks => sz k + szs ks
end
theorem zi6 : ∀ l l' : List Fml, szs (l ++ l') = szs l + szs l'
  | [], l' => by simp [szs]
  | a :: l, l' => by simp [szs, zi6 l l', Nat.add_assoc]
theorem sz_pos : ∀ f : Fml, 1 ≤ sz f
  | .mk _ _ ks => by simp [sz]
theorem fnd_none {es : List Ed} {N k : Nat} {n : Int} {a b : Int} (h : (a, b) ∈ fnd (rN es N k) es n N ∨ (b, a) ∈ fnd (rN es N k) es n N) : rN es N k a b = none := by
  rcases h with h | h
  · obtain ⟨c, d, e, _, _, h3⟩ := zda.1 h
    cases e
    unfold zcu at h3
    simp only [Bool.and_eq_true] at h3
    simpa using h3.1
  · obtain ⟨c, d, e, _, _, h3⟩ := zda.1 h
    cases e
    unfold zcu at h3
    simp only [Bool.and_eq_true] at h3
    rw [zfj]
    simpa using h3.1
theorem tells_succ (es : List Ed) (N k : Nat) (j : Int) (hj : j ≤ k) (u t : Int) : zbG (rN es N (k + 1)) j u t = zbG (rN es N k) j u t := by
  unfold zbG
  congr 1
  show (match zcE (rN es N k) ((k : Int) + 1) (fnd (rN es N k) es ((k : Int) + 1) N) u t with | some k => decide (k ≤ j) | none => false) = _
  rw [zbD]
  by_cases h : (u, t) ∈ fnd (rN es N k) es ((k : Int) + 1) N ∨ (t, u) ∈ fnd (rN es N k) es ((k : Int) + 1) N
  · rw [if_pos h, fnd_none h]
    simp <;> omega
  · rw [if_neg h] <;> (cases rN es N k u t <;> rfl)
theorem tells_stable (es : List Ed) (N : Nat) {j k : Nat} (h : j ≤ k) (u t : Int) : zbG (rN es N k) j u t = zbG (rN es N j) j u t := by
  induction k with
  | zero => have : j = 0 := by omega
            subst this; rfl
  | succ k ih =>
    by_cases e : j = k + 1
    · subst e; rfl
    · rw [tells_succ es N k j (by omega), ih (by omega)]
theorem zbV (es : List Ed) (N : Nat) {j k : Nat} (h : j ≤ k) (a b : Int) : zP (rN es N k) es a b j = zP (rN es N j) es a b j := by
  unfold zP
  congr 1
  funext x
  unfold zfv
  congr 1
  funext t
  exact tells_stable es N h x.2.1 t
theorem rN_found {es : List Ed} {N : Nat} : ∀ {k : Nat} {a b v : Int}, rN es N k a b = some v → (zP (rN es N k) es a b (v - 1)).isSome = true ∨ (zP (rN es N k) es b a (v - 1)).isSome = true
  | 0, a, b, v, h => by cases h
  | k + 1, a, b, v, h => by
    have h0 := h
    have h : zcE (rN es N k) ((k : Int) + 1) (fnd (rN es N k) es ((k : Int) + 1) N) a b = some v := h
    rw [zbD] at h
    have key : ∀ a b : Int, (a, b) ∈ fnd (rN es N k) es ((k : Int) + 1) N → (zP (rN es N (k + 1)) es a b k).isSome = true ∨ (zP (rN es N (k + 1)) es b a k).isSome = true := by
      intro a b hm
      obtain ⟨c, d, e, _, _, h3⟩ := zda.1 hm
      cases e
      unfold zcu at h3
      simp only [Bool.and_eq_true, Bool.or_eq_true] at h3
      rw [show ((k : Int) + 1 - 1) = k by omega] at h3
      rw [zbV es N (by omega : k ≤ k + 1), zbV es N (by omega : k ≤ k + 1)]
      exact h3.2
    split at h
    · rename_i hm
      cases h
      rw [show ((k : Int) + 1 - 1) = k by omega]
      rcases hm with hm | hm
      · exact key a b hm
      · exact (key b a hm).symm
    · have := rN_found h
      have h1 := zhI h
      have h2 := (zbR h).1
      obtain ⟨j, hj⟩ := Int.eq_ofNat_of_zero_le (show 0 ≤ v - 1 by omega)
      rw [hj] at this ⊢
      have hjk : j ≤ k := by omega
      rw [zbV es N (by omega : j ≤ k + 1), zbV es N (by omega : j ≤ k + 1)]
      rw [zbV es N hjk, zbV es N hjk] at this
      exact this
theorem fix_succ {es : List Ed} {N j : Nat} (h : fnd (rN es N j) es ((j : Int) + 1) N = []) : rN es N (j + 1) = rN es N j ∧ fnd (rN es N (j + 1)) es (((j + 1 : Nat) : Int) + 1) N = [] := by
  have e : rN es N (j + 1) = rN es N j := by
    show zcE (rN es N j) ((j : Int) + 1) (fnd (rN es N j) es ((j : Int) + 1) N) = _
    rw [h]; rfl
  refine ⟨e, ?_⟩
  rw [← fz_nil]
  have e2 : RZ es N (j + 1) = RZ es N j := by
    funext a b; unfold RZ; rw [e]
  rw [e2, fz_nil]; exact h
theorem rN_fix {es : List Ed} {N j : Nat} (h : fnd (rN es N j) es ((j : Int) + 1) N = []) : ∀ k, j ≤ k → rN es N k = rN es N j ∧ fnd (rN es N k) es ((k : Int) + 1) N = [] := by
  intro k hk
  induction k with
  | zero => have : j = 0 := by omega
            subst this; exact ⟨rfl, h⟩
  | succ k ih =>
    by_cases e : j = k + 1
    · subst e; exact ⟨rfl, h⟩
    · obtain ⟨h1, h2⟩ := ih (by omega)
      obtain ⟨h3, h4⟩ := fix_succ h2
      exact ⟨h3.trans h1, h4⟩
theorem meas_step {es : List Ed} {N : Nat} : ∀ i, (∀ j, j < i → fnd (rN es N j) es ((j : Int) + 1) N ≠ []) → meas N (rN es N i) + i ≤ N * N
  | 0, _ => by have := meas_le N (rN es N 0); omega
  | i + 1, h => by
    have h1 := meas_step i fun j hj => h j (by omega)
    have h2 : meas N (rN es N (i + 1)) < meas N (rN es N i) := meas_lt (h i (by omega))
    omega
theorem rN_le {es : List Ed} {N k : Nat} {a b v : Int} (h : rN es N k a b = some v) : v ≤ ((N * N : Nat) : Int) := by
  have hp := zhI h
  obtain ⟨i, rfl⟩ := Int.eq_ofNat_of_zero_le (show 0 ≤ v by omega)
  have := meas_step (es := es) (N := N) i fun j hj hn => by
    have hik := (zbR h).1
    rw [(rN_fix hn k (by omega)).1] at h
    have := (zbR h).1
    omega
  omega
def tf (r : Int → Int → Option Int) (es : List Ed) : Nat → Int → Int → Fml
  | 0, _, _ => .mk 0 0 []
  | n + 1, a, b => match zP r es a b ((r a b).getD 0 - 1) with
    | some x => .mk 4 x.2.2 [.mk 3 0 ((tos es b x.2.2).map fun t => tf r es n x.2.1 t)]
    | none => .mk 2 0 [tf r es n b a]
def Ok (es : List Ed) (N k : Nat) (n : Nat) (a b : Int) : Prop := ∃ v, rN es N k a b = some v ∧ 2 * v ≤ n ∧ (zP (rN es N k) es a b (v - 1) = none → 2 * v + 1 ≤ n)
theorem Ok.pos {es : List Ed} {N k n : Nat} {a b : Int} (h : Ok es N k n a b) : ∃ m, n = m + 1 := by
  obtain ⟨v, h1, h2, _⟩ := h
  have := zhI h1
  exact ⟨n - 1, by omega⟩
theorem Ok.top {es : List Ed} {N k : Nat} {a b v : Int} (h : rN es N k a b = some v) : Ok es N k (2 * k + 1) a b := ⟨v, h, by have := (zbR h).1; omega, fun _ => by have := (zbR h).1; omega⟩
theorem Ok.mono {es : List Ed} {N k n m : Nat} {a b : Int} (h : Ok es N k n a b) (hm : n ≤ m) : Ok es N k m a b := by
  obtain ⟨v, h1, h2, h3⟩ := h
  exact ⟨v, h1, by omega, fun e => by have := h3 e; omega⟩
theorem Ok.can {es : List Ed} {N k n : Nat} {a b v : Int} {x : Ed} (h : Ok es N k (n + 1) a b) (hv : rN es N k a b = some v) (hx : zP (rN es N k) es a b (v - 1) = some x) {t : Int} (ht : t ∈ tos es b x.2.2) : Ok es N k n x.2.1 t := by
  obtain ⟨v', h1, h2, h3⟩ := h
  rw [hv] at h1; cases h1
  have h4 := List.find?_some hx
  have h5 := List.all_eq_true.1 h4 t ht
  unfold zbG at h5
  cases hr : rN es N k x.2.1 t with
  | none => rw [hr] at h5; simp at h5
  | some u =>
    rw [hr] at h5
    simp at h5
    exact ⟨u, hr, by omega, fun _ => by omega⟩
theorem Ok.not {es : List Ed} {N k n : Nat} {a b v : Int} (h : Ok es N k (n + 1) a b) (hv : rN es N k a b = some v) (hx : zP (rN es N k) es a b (v - 1) = none) : Ok es N k n b a := by
  obtain ⟨v', h1, h2, h3⟩ := h
  rw [hv] at h1; cases h1
  refine ⟨v, by rw [zfj]; exact hv, by have := h3 hx; omega, fun e => ?_⟩
  rcases rN_found hv with h | h
  · rw [hx] at h; cases h
  · rw [e] at h; cases h
theorem tf_stable {es : List Ed} {N k : Nat} : ∀ (n : Nat) (a b : Int), Ok es N k n a b → ∀ m, n ≤ m → tf (rN es N k) es m a b = tf (rN es N k) es n a b := by
  intro n
  induction n with
  | zero => intro a b h; obtain ⟨m, e⟩ := h.pos; cases e
  | succ n ih =>
    intro a b h m hm
    obtain ⟨m, rfl⟩ : ∃ m', m = m' + 1 := ⟨m - 1, by omega⟩
    obtain ⟨v, hv, _⟩ := id h
    unfold tf
    simp only [hv, Option.getD_some]
    cases hx : zP (rN es N k) es a b (v - 1) with
    | none =>
      show Fml.mk 2 0 [_] = Fml.mk 2 0 [_]
      rw [ih b a (h.not hv hx) m (by omega)]
    | some x =>
      show Fml.mk 4 x.2.2 [.mk 3 0 _] = Fml.mk 4 x.2.2 [.mk 3 0 _]
      rw [show ((tos es b x.2.2).map fun t => tf (rN es N k) es m x.2.1 t) = ((tos es b x.2.2).map fun t => tf (rN es N k) es n x.2.1 t) from List.map_congr_left fun t ht => ih x.2.1 t (h.can hv hx ht) m (by omega)]
def TF (es : List Ed) (N k : Nat) (a b : Int) : Fml := tf (rN es N k) es (2 * k + 2) a b
theorem TF_can {es : List Ed} {N k : Nat} {a b v : Int} {x : Ed} (hv : rN es N k a b = some v) (hx : zP (rN es N k) es a b (v - 1) = some x) : TF es N k a b = .mk 4 x.2.2 [.mk 3 0 ((tos es b x.2.2).map fun t => TF es N k x.2.1 t)] := by
  unfold TF
  rw [show tf (rN es N k) es (2 * k + 2) a b = .mk 4 x.2.2 [.mk 3 0 ((tos es b x.2.2).map fun t => tf (rN es N k) es (2 * k + 1) x.2.1 t)] by
    conv => lhs; unfold tf
    simp only [hv, Option.getD_some, hx]]
  rw [show ((tos es b x.2.2).map fun t => tf (rN es N k) es (2 * k + 2) x.2.1 t) = ((tos es b x.2.2).map fun t => tf (rN es N k) es (2 * k + 1) x.2.1 t) from List.map_congr_left fun t ht => by
    have := ((Ok.top hv).mono (Nat.le_succ _)).can hv hx ht
    exact tf_stable _ _ _ this _ (by omega)]
theorem TF_not {es : List Ed} {N k : Nat} {a b v : Int} (hv : rN es N k a b = some v) (hx : zP (rN es N k) es a b (v - 1) = none) : TF es N k a b = .mk 2 0 [TF es N k b a] := by
  unfold TF
  rw [show tf (rN es N k) es (2 * k + 2) a b = .mk 2 0 [tf (rN es N k) es (2 * k + 1) b a] by
    conv => lhs; unfold tf
    simp only [hv, Option.getD_some, hx]]
  rw [tf_stable (2 * k + 1) b a (((Ok.top hv).mono (Nat.le_succ _)).not hv hx) (2 * k + 2) (by omega)]
end Go.Ideal.J
namespace Go.Ideal.J
open Go Go.Ideal
abbrev fmL (op lab : Int) (slv : Value) : List Value := [.int .i64 op, .int .i64 lab, slv]
mutual
def FV (B : Nat → Prop) (h : H) : Fml → List Value → Prop
  | .mk op lab ks, r => ∃ slv rows, r = fmL op lab slv ∧ Row h 3 slv rows ∧ (∀ b o n c, slv = .slice (some ⟨b, o, none⟩) n c → B b) ∧ rows.length ≤ 100000 ∧ FVs B h ks rows
def FVs (B : Nat → Prop) (h : H) : List Fml → List (List Value) → Prop
  | [], rows => rows = []
  | k :: ks, rows => ∃ r rs, rows = r :: rs ∧ FV B h k r ∧ FVs B h ks rs
end
mutual
theorem FV.mono {B C : Nat → Prop} {h : H} (hBC : ∀ b, b < h.next → B b → C b) : ∀ {f : Fml} {r : List Value}, FV B h f r → FV C h f r
  | .mk op lab ks, r, hf => by
    unfold FV at hf ⊢
    obtain ⟨slv, rows, h1, h2, h3, h4, h5⟩ := hf
    exact ⟨slv, rows, h1, h2, fun b o n c e => hBC b (h2.lt e) (h3 b o n c e), h4, FVs.mono hBC h5⟩
theorem FVs.mono {B C : Nat → Prop} {h : H} (hBC : ∀ b, b < h.next → B b → C b) : ∀ {fs : List Fml} {rs : List (List Value)}, FVs B h fs rs → FVs C h fs rs
  | [], rs, hf => by unfold FVs at hf ⊢; exact hf
  | f :: fs, rs, hf => by
    unfold FVs at hf ⊢
    obtain ⟨r, rs', h1, h2, h3⟩ := hf
    exact ⟨r, rs', h1, FV.mono hBC h2, FVs.mono hBC h3⟩
end
mutual
theorem FV.frD {B D : Nat → Prop} {h h' : H} (hf' : FrD D h h') (hBC : ∀ b, b < h.next → B b → ¬ D b) : ∀ {f : Fml} {r : List Value}, FV B h f r → FV B h' f r
  | .mk op lab ks, r, hf => by
    unfold FV at hf ⊢
    obtain ⟨slv, rows, h1, h2, h3, h4, h5⟩ := hf
    exact ⟨slv, rows, h1, h2.frD hf' (fun b o n c e => hBC b (h2.lt e) (h3 b o n c e)), h3, h4, FVs.frD hf' hBC h5⟩
theorem FVs.frD {B D : Nat → Prop} {h h' : H} (hf' : FrD D h h') (hBC : ∀ b, b < h.next → B b → ¬ D b) : ∀ {fs : List Fml} {rs : List (List Value)}, FVs B h fs rs → FVs B h' fs rs
  | [], rs, hf => by unfold FVs at hf ⊢; exact hf
  | f :: fs, rs, hf => by
    unfold FVs at hf ⊢
    obtain ⟨r, rs', h1, h2, h3⟩ := hf
    exact ⟨r, rs', h1, FV.frD hf' hBC h2, FVs.frD hf' hBC h3⟩
end
mutual
theorem FV.bnd {B : Nat → Prop} {h : H} : ∀ {f : Fml} {r : List Value}, FV B h f r → FV (fun b => B b ∧ b < h.next) h f r
  | .mk op lab ks, r, hf => by
    unfold FV at hf ⊢
    obtain ⟨slv, rows, h1, h2, h3, h4, h5⟩ := hf
    exact ⟨slv, rows, h1, h2, fun b o n c e => ⟨h3 b o n c e, h2.lt e⟩, h4, FVs.bnd h5⟩
theorem FVs.bnd {B : Nat → Prop} {h : H} : ∀ {fs : List Fml} {rs : List (List Value)}, FVs B h fs rs → FVs (fun b => B b ∧ b < h.next) h fs rs
  | [], rs, hf => by unfold FVs at hf ⊢; exact hf
  | f :: fs, rs, hf => by
    unfold FVs at hf ⊢
    obtain ⟨r, rs', h1, h2, h3⟩ := hf
    exact ⟨r, rs', h1, FV.bnd h2, FVs.bnd h3⟩
end
theorem FVs.append {B : Nat → Prop} {h : H} {g : Fml} {q : List Value} (hg : FV B h g q) : ∀ {fs : List Fml} {rs : List (List Value)}, FVs B h fs rs → FVs B h (fs ++ [g]) (rs ++ [q])
  | [], rs, hf => by
    unfold FVs at hf; subst hf
    show FVs B h [g] [q]
    unfold FVs
    exact ⟨q, [], rfl, hg, by unfold FVs; rfl⟩
  | f :: fs, rs, hf => by
    unfold FVs at hf
    obtain ⟨r, rs', rfl, h2, h3⟩ := hf
    show FVs B h (f :: (fs ++ [g])) (r :: (rs' ++ [q]))
    unfold FVs
    exact ⟨r, _, rfl, h2, FVs.append hg h3⟩
theorem FVs.len {B : Nat → Prop} {h : H} : ∀ {fs : List Fml} {rs : List (List Value)}, FVs B h fs rs → rs.length = fs.length
  | [], rs, hf => by unfold FVs at hf; rw [hf]; rfl
  | f :: fs, rs, hf => by
    unfold FVs at hf
    obtain ⟨r, rs', rfl, h2, h3⟩ := hf
    rw [List.length_cons, List.length_cons, FVs.len h3]
theorem FVs.at {B : Nat → Prop} {h : H} : ∀ {fs : List Fml} {rs : List (List Value)}, FVs B h fs rs → ∀ {i : Nat} {f : Fml}, fs[i]? = some f → ∃ r, rs[i]? = some r ∧ FV B h f r
  | [], rs, hf, i, f, hi => by simp at hi
  | g :: fs, rs, hf, i, f, hi => by
    unfold FVs at hf
    obtain ⟨r, rs', rfl, h2, h3⟩ := hf
    cases i with
    | zero => simp at hi; subst hi; exact ⟨r, rfl, h2⟩
    | succ i => exact FVs.at h3 (by simpa using hi)
theorem FV.cells {B : Nat → Prop} {h : H} {f : Fml} {r : List Value} (hf : FV B h f r) : ∃ op lab bs n c, r = fmL op lab (.slice bs n c) ∧ r.length = 3 ∧ r.all zX = true ∧ r.all zbn = true := by
  cases f with
  | mk op lab ks =>
    unfold FV at hf
    obtain ⟨slv, rows, rfl, h2, h3, h4, h5⟩ := hf
    obtain ⟨b, c, rfl⟩ := h2.len
    exact ⟨op, lab, b, _, c, rfl, rfl, rfl, rfl⟩
theorem FV.fr {B : Nat → Prop} {h h' : H} (hf' : Fr h h') {f : Fml} {r : List Value} (hf : FV B h f r) : FV B h' f r := FV.frD (D := fun _ => False) hf'.D (fun _ _ _ => id) hf
theorem FVs.fr {B : Nat → Prop} {h h' : H} (hf' : Fr h h') {f : List Fml} {r : List (List Value)} (hf : FVs B h f r) : FVs B h' f r := FVs.frD (D := fun _ => False) hf'.D (fun _ _ _ => id) hf
end Go.Ideal.J
namespace Go.Ideal.J
open Go Go.Ideal
theorem zgE : ∀ (z r : List Value), z.length = r.length → zN z 0 r = some r
  | [], [], _ => rfl
  | c :: z, a :: r, h => by
    show (zN z 0 r).map (a :: ·) = _
    rw [zgE z r (by simpa using h)]; rfl
  | [], _ :: _, h => by simp at h
  | _ :: _, [], h => by simp at h
theorem zhp : ∀ (l z r : List Value), z.length = r.length → zN (l ++ z) l.length r = some (l ++ r)
  | [], z, r, h => zgE z r h
  | c :: l, [], [], h => rfl
  | c :: l, y :: z, a :: r, h => by
    show (zN (l ++ y :: z) l.length (a :: r)).map (c :: ·) = _
    rw [zhp l (y :: z) (a :: r) h]; rfl
  | _ :: _, [], _ :: _, h => by simp at h
  | _ :: _, _ :: _, [], h => by simp at h
theorem app_put {h : H} {v : Value} {rows : List (List Value)} {ob : Option Nat} {p9 : Nat} {o l : Value} {r z : List Value} (hg : Grow h 3 v rows ob) (hp : h.get p9 = some (.cells [o, l, v] 0)) (hpl : p9 < h.next) (hpo : ob ≠ some p9) (hrl : r.length = 3) (hrc : r.all zX = true) (hri : r.all zbn = true) (hz : z.length = 3) (hzc : z.all zX = true) (hzi : z.all zbn = true) (hlen : rows.length ≤ 100000) :
    ∃ h2 h3 v', bltV (h.new (.cells z 0)) (.append 3 40) [v, .slice (some ⟨h.next, 0, none⟩) 1 1] = some (v', h2) ∧ (∀ h' : H, zy 3 v' (.int .i64 (rows.length : Int)) h' = some (.pointer (some ⟨h.next + 1, rows.length * 3, none⟩), h')) ∧
      zi8 3 (.pointer (some ⟨h.next + 1, rows.length * 3, none⟩)) (.agg ⟨r⟩) 1 (.pointer (some ⟨p9, 2, none⟩)) v' h2 = some h3 ∧ Grow h3 3 v' (rows ++ [r]) (some (h.next + 1)) ∧ h3.get p9 = some (.cells [o, l, v'] 0) ∧ FrD (fun j => ob = some j ∨ j = p9) h h3 ∧ h3.next = h.next + 2 := by
  obtain ⟨h2, e1, g1, n1, f1, c1⟩ := zgW (h := h.new (.cells z 0)) (sz := 3) (bytes := 40) (w := .slice (some ⟨h.next, 0, none⟩) 1 1) (news := [z]) (by omega) (by decide) (hg.fr (.new _ _)) (by simp) (zgV (b := h.next) (e := 0) (by simp) hz hzc) (by simpa using hzi) (by simp; exact ⟨hz, by simpa using hzc⟩) (by simp; omega)
  have hrows : ∀ r ∈ rows, r.length = 3 ∧ r.all zX = true := by
    cases hg with
    | nil => intro r hr; cases hr
    | cells _ _ h => exact h
    | full _ _ h _ => exact h
  have hfl : rows.flatten.length = rows.length * 3 := zfS fun r hx => (hrows r hx).1
  have hne : p9 ≠ h.next + 1 := by omega
  have gp2 : h2.get p9 = some (.cells [o, l, v] 0) := by
    rw [f1.get _ (by simp; omega) hpo, zbl (by omega)]; exact hp
  have hnn : (h.new (.cells z 0)).next = h.next + 1 := by simp
  rw [hnn] at c1 e1 g1 n1
  have hw1 : h2.write (h.next + 1) (rows.length * 3) r = some (h2.put (h.next + 1) (.cells (rows ++ [r]).flatten 3)) := by
    refine write_of c1 (by rw [hri]; rfl) ?_
    rw [List.flatten_append, List.flatten_append, ← hfl]
    simpa using zhp rows.flatten z r (by omega)
  have gp3 : (h2.put (h.next + 1) (.cells (rows ++ [r]).flatten 3)).get p9 = some (.cells [o, l, v] 0) := by rw [zm hne]; exact gp2
  refine ⟨h2, (h2.put (h.next + 1) (.cells (rows ++ [r]).flatten 3)).put p9 (.cells [o, l, .slice (some ⟨h.next + 1, 0, none⟩) (rows.length + 1) zH] 0), .slice (some ⟨h.next + 1, 0, none⟩) (rows.length + 1) zH, e1, ?_, ?_, ?_, zx rfl, ?_, ?_⟩
  · intro h'
    show (if Nat.blt rows.length (rows.length + 1) then some (Value.pointer (some ⟨h.next + 1, 0 + rows.length * 3, none⟩)) else none).map (·, h') = _
    rw [if_pos (by simp), Nat.zero_add]; rfl
  · unfold zi8
    have hb : Nat.beq (h.next + 1) p9 = false := by rw [Bool.eq_false_iff]; intro e; exact hne (Nat.eq_of_beq_eq_true e).symm
    show (if Nat.beq (h.next + 1) p9 = true then none else if (Nat.beq r.length 3 && Nat.beq 1 1) = true then _ else none) = _
    rw [hb, hrl]
    show (h2.write (h.next + 1) (rows.length * 3) r).bind _ = _
    rw [hw1, Option.bind_some, write_def, gp3]
    rfl
  · have := Grow.cells (h := (h2.put (h.next + 1) (.cells (rows ++ [r]).flatten 3)).put p9 (.cells [o, l, .slice (some ⟨h.next + 1, 0, none⟩) (rows.length + 1) zH] 0)) (sz := 3) (b := h.next + 1) (rows := rows ++ [r]) (by simp [n1]) (by rw [zm (Ne.symm hne), zx rfl]) (by
      intro x hx
      rcases List.mem_append.1 hx with hx | hx
      · exact hrows x hx
      · rw [List.mem_singleton] at hx; subst hx; exact ⟨hrl, hrc⟩)
    rw [List.length_append] at this
    exact this
  · refine ⟨by simp [n1]; omega, fun i hi hd => ?_⟩
    rw [zm (fun e => hd (.inr e)), zm (by omega), f1.get _ (by simp; omega) (fun e => hd (.inl e)), zbl (by omega)]
  · simp [n1]
end Go.Ideal.J
namespace Go.Ideal.J
open Go Go.Ideal
abbrev tlL (m : Nat) (st lb : Int) (sl : Value) (nm : Nat) : List Value := [.map (some m), .int .i64 st, .int .i64 lb, sl, .map (some nm)]
abbrev tlV (m : Nat) (st lb : Int) (sl : Value) (nm : Nat) : Value := .agg ⟨tlL m st lb sl nm⟩
def FOK (es : List Ed) (N k m : Nat) (st lb : Int) (sl : Value) (nm n : Nat) : Prop :=
  ∀ (a b : Int) (h : H), Row h 3 sl (es.map edL) → MapM h m (rV (rN es N k)) → m < h.next → Ok es N k n a b →
    ∃ h' r, zbv F (fnV n_f) [tlV m st lb sl nm, .int .i64 a, .int .i64 b] h = some (.agg ⟨r⟩, h') ∧ Fr h h' ∧ FV (fun q => h.next ≤ q) h' (TF es N k a b) r
theorem _root_.Go.Ideal.SlV.map2 {v : Value} {n : Nat} (hv : SlV v n) (m : Nat) : zbb 2 [v, .map (some m)] = some [v, .map (some m)] := by
  rw [zc8 hv.clean]; rfl
theorem fml_round (es : List Ed) (N k m : Nat) (st lb : Int) (sl : Value) (nm n : Nat) (hok : FOK es N k m st lb sl nm n) (x : Ed) (t : Int) (hot : Ok es N k n x.2.1 t) (L q3 q7 q9 : Nat) (h1 : H) (hrow : Row h1 3 sl (es.map edL)) (hsl : ∀ b o n c, sl = .slice (some ⟨b, o, none⟩) n c → b ≠ L) (hm : MapM h1 m (rV (rN es N k))) (hml : m < h1.next) (hmL : m ≠ L)
    (hL : h1.get L = some (.loop .ready none (setL [p3, p7, p9] [ptr q3, ptr q7, ptr q9]) zdD)) (g3 : h1.get q3 = some (.cells (tlL m st lb sl nm) 0)) (g7 : h1.get q7 = some (.cells (edL x) 0)) (l0 : L < h1.next) (l3 : q3 < h1.next) (l7 : q7 < h1.next) (l9 : q9 < h1.next) (n3 : q3 ≠ L) (n7 : q7 ≠ L) (n9 : q9 ≠ L)
    (v : Value) (rows : List (List Value)) (ob : Option Nat) (g9 : h1.get q9 = some (.cells [.int .i64 3, .int .i64 0, v] 0)) (hg : Grow h1 3 v rows ob) (lo : Nat) (hlo : lo ≤ h1.next) (hob : ∀ q, ob = some q → lo ≤ q) (hlo9 : q9 < lo) (hloL : L < lo) (fs : List Fml) (hfs : FVs (fun q => lo ≤ q ∧ ob ≠ some q) h1 fs rows) (hlen : rows.length ≤ 100000) {P : Value → H → Prop}
    (hP : ∀ h' v' rows' ob', FrD (fun j => j = L ∨ j = q9 ∨ lo ≤ j) h1 h' → h'.get L = some (.loop .ready none (setL [p3, p7, p9] [ptr q3, ptr q7, ptr q9]) zdD) → h'.get q9 = some (.cells [.int .i64 3, .int .i64 0, v'] 0) → Grow h' 3 v' rows' ob' → (∀ q, ob' = some q → lo ≤ q) → FVs (fun q => lo ≤ q ∧ ob' ≠ some q) h' (fs ++ [TF es N k x.2.1 t]) rows' → P (.bool true) h') :
    Ret F (.func (.yield L) #[] #[]) [.int .i64 t] h1 P := by
  refine Ret.round hL ?_
  rw [s_f_1]
  simp (disch := first | omega | (simp only [za, zb]; done) | (simp only [za, zb]; omega)) []
  rw [zdL hL, s_f_2]
  have hv := hrow.slvM
  obtain ⟨h2, eh2⟩ : ∃ h2, h2 = h1.put L (.loop .busy none (setL [p3, p7, p9] [ptr q3, ptr q7, ptr q9]) zdD) := ⟨_, rfl⟩
  have hn2 : h2.next = h1.next := by rw [eh2]; simp
  have hf2 : FrD (fun j => j = L) h1 h2 := by rw [eh2]; exact (FrD.refl (fun j => j = L) _).put (.inr rfl) _
  have gL2 : h2.get L = some (.loop .busy none (setL [p3, p7, p9] [ptr q3, ptr q7, ptr q9]) zdD) := by rw [eh2, zx rfl]
  have g32 := (hf2.get _ l3 n3).trans g3
  have g72 := (hf2.get _ l7 n7).trans g7
  have g92 := (hf2.get _ l9 n9).trans g9
  obtain ⟨h5, r, ec, hf5, hfv⟩ := hok x.2.1 t h2 (hrow.frD hf2 (fun b o n c e => hsl b o n c e)) (hm.fr hf2 hml hmL) (by omega) hot
  have hfn5 := hf5.next
  have g95 := (hf5.get _ (by omega)).trans g92
  obtain ⟨op, lab, bs, nn, cc, er, hr1, hr2, hr3⟩ := hfv.cells
  have hgv := hg.slv
  have hobL : ∀ q, ob = some q → q ≠ L := fun q e => by have := hob q e; omega
  obtain ⟨h6, h7, v', a1, a2, a3, a4, a5, a6, a7⟩ := app_put (h := h5) (z := [.int .i64 0, .int .i64 0, .slice none 0 0]) ((hg.frD hf2 (fun b e => hobL b e)).fr hf5) g95 (by omega) (fun e => by have := hob _ e; omega) hr1 hr2 hr3 rfl rfl rfl hlen
  have hob5 : ∀ q, ob = some q → q < h1.next := fun q e => by subst e; exact hg.lt
  have gL7 : h7.get L = some (.loop .busy none (setL [p3, p7, p9] [ptr q3, ptr q7, ptr q9]) zdD) := by
    rw [a6.get _ (by omega) (fun e => e.elim (fun e => hobL _ e rfl) (fun e => n9 e.symm)), hf5.get _ (by omega)]; exact gL2
  have hfD : FrD (fun j => j = L ∨ j = q9 ∨ lo ≤ j) h1 (h7.put L (.loop .ready none (setL [p3, p7, p9] [ptr q3, ptr q7, ptr q9]) zdD)) :=
    (((hf2.mono (fun _ _ h => .inl h)).trans hf5.D).trans (a6.mono (fun j _ h => h.elim (fun e => .inr (.inr (hob j e))) (fun e => .inr (.inl e))))).put (.inr (.inl rfl)) _
  have ok : OkV (fin L none h7) P := by
    rw [zc4 gL7]
    refine OkV.val (hP _ v' (rows ++ [r]) (some (h5.next + 1)) hfD (zx rfl) (by rw [zm n9]; exact a5) (a4.frD ((FrD.refl (fun j => j = L) _).put (.inr rfl) _) (fun b e hd => by cases e; omega)) (fun q e => by cases e; omega) ?_)
    have b1 : FVs (fun q => lo ≤ q ∧ some (h5.next + 1) ≠ some q) (h7.put L (.loop .ready none (setL [p3, p7, p9] [ptr q3, ptr q7, ptr q9]) zdD)) fs rows :=
      FVs.mono (fun b hb h => ⟨h.1.1, fun e => by have := Option.some.inj e; omega⟩) (FVs.frD (D := fun j => j = L ∨ ob = some j ∨ j = q9) (((((hf2.mono (fun _ _ h => .inl h)).trans hf5.D).trans (a6.mono (fun j _ h => .inr h))).put (.inr (.inl rfl)) _)) (fun b hb h hd => by
        rcases hd with hd | hd | hd
        · omega
        · exact h.1.2 hd
        · omega) (FVs.bnd hfs))
    have b2 : FV (fun q => lo ≤ q ∧ some (h5.next + 1) ≠ some q) (h7.put L (.loop .ready none (setL [p3, p7, p9] [ptr q3, ptr q7, ptr q9]) zdD)) (TF es N k x.2.1 t) r :=
      FV.mono (fun b hb h => ⟨by omega, fun e => by have := Option.some.inj e; omega⟩) (FV.frD (D := fun j => (ob = some j ∨ j = q9) ∨ j = L) ((a6.mono (fun _ _ h => .inl h)).put (.inr (.inr rfl)) _) (fun b hb h hd => by
        rcases hd with (hd | hd) | hd
        · have := hob5 _ hd; omega
        · omega
        · omega) (FV.bnd hfv))
    exact FVs.append b2 b1
  refine OkV.eq ok ?_
  have hrow2 := hrow
  simp (disch := first | omega | (simp only [za, zb]; done) | (simp only [za, zb]; omega)) [hv.map2, ← eh2, g32, g72, hv.clean, hv.take, hv.eqc, ec, g95, g92, hgv.one, hgv.take, hgv.len, hgv.eqc, hgv.eq, zq, zu, a1, a2, a3, st2]
end Go.Ideal.J
namespace Go.Ideal.J
open Go Go.Ideal
theorem _root_.Go.Ideal.SlV.take1 {v : Value} {n : Nat} (hv : SlV v n) (l : List Value) : zbb 1 (v :: l) = some [v] := by
  rw [zc8 hv.clean]; rfl
theorem tos_len (es : List Ed) (b lab : Int) : (tos es b lab).length ≤ es.length := by
  unfold tos outs
  rw [List.length_map]
  exact Nat.le_trans (List.length_filter_le _ _) (List.length_filter_le _ _)
theorem FV.one {B : Nat → Prop} {h : H} {op lab : Int} {f : Fml} {r : List Value} {b e : Nat} (hf : FV B h f r) (hg : h.get b = some (.cells r e)) (hlt : b < h.next) (hB : B b) : FV B h (.mk op lab [f]) (fmL op lab (.slice (some ⟨b, 0, none⟩) 1 1)) := by
  obtain ⟨_, _, _, _, _, _, h1, h2, _⟩ := hf.cells
  unfold FV
  refine ⟨_, [r], rfl, ?_, fun b' o n c e => by cases e; exact hB, by simp, ?_⟩
  · have := Grow.full (h := h) (sz := 3) (b := b) (e := e) (rows := [r]) hlt (by simpa using hg) (by intro x hx; rw [List.mem_singleton] at hx; subst hx; exact ⟨h1, h2⟩) (by show 1 < zH; decide)
    exact this.row (by omega)
  · unfold FVs
    exact ⟨r, [], rfl, hf, by unfold FVs; rfl⟩
theorem fml_ok (es : List Ed) (hs : zY es) (hsz : es.length ≤ 1000) (N k m : Nat) (hN : N ≤ 200) (st lb : Int) (sl : Value) (nm : Nat) : ∀ n, FOK es N k m st lb sl nm n := by
  intro n
  induction n with
  | zero => intro a b h _ _ _ ho; obtain ⟨_, e⟩ := ho.pos; cases e
  | succ n ih =>
    intro a b h hrow hm hml hok
    obtain ⟨v, hv, hv2, hv3⟩ := id hok
    have hvp := zhI hv
    suffices hr : Ret F (fnV n_f) [tlV m st lb sl nm, .int .i64 a, .int .i64 b] h fun u h' => ∃ r, u = .agg ⟨r⟩ ∧ Fr h h' ∧ FV (fun q => h.next ≤ q) h' (TF es N k a b) r by
      obtain ⟨u, h', e, r, rfl, h1, h2⟩ := hr; exact ⟨h', r, e, h1, h2⟩
    obtain ⟨P, hPd⟩ : ∃ P : Value → H → Prop, P = fun u h' => ∃ r, u = .agg ⟨r⟩ ∧ Fr h h' ∧ FV (fun q => h.next ≤ q) h' (TF es N k a b) r := ⟨_, rfl⟩
    rw [← hPd]
    refine Ret.fn F_f 3 (by decide) ?_
    rw [s_f]
    have hsv := hrow.slvM
    obtain ⟨q, eq⟩ : ∃ q, q = h.next := ⟨_, rfl⟩
    obtain ⟨h2, eh2⟩ : ∃ h2, h2 = (h.new (.cells (tlL m st lb sl nm) 0)).new (.cells (fmL 0 0 (.slice none 0 0)) 0) := ⟨_, rfl⟩
    have hf2 : Fr h h2 := by rw [eh2]; exact (Fr.new _ _).newR _
    have hn2 : h2.next = q + 2 := by rw [eh2, eq]; simp
    have g0 : h2.get q = some (.cells (tlL m st lb sl nm) 0) := by rw [eh2, eq]; simp (disch := omega)
    have g1 : h2.get (q + 1) = some (.cells (fmL 0 0 (.slice none 0 0)) 0) := by rw [eh2, eq]; simp (disch := omega)
    have hlk := zhh (hm.fr (D := fun _ => False) hf2.D hml (by simp)) (.int .i64 0) a b
    simp only [rV, hv, Option.map_some, Option.getD_some] at hlk
    obtain ⟨h3, e3, hf3⟩ := zhl es hs hsz st lb (rN es N k) m a b (v - 1) sl h2 (hrow.fr hf2) (hm.fr (D := fun _ => False) hf2.D hml (by simp)) (by omega)
    have hfn3 := hf3.next
    have g03 := (hf3.get _ (by omega)).trans g0
    have g13 := (hf3.get _ (by omega)).trans g1
    have hm3 := (hm.fr (D := fun _ => False) hf2.D hml (by simp)).fr (D := fun _ => False) hf3.D (by omega) (by simp)
    have hrow3 := (hrow.fr hf2).fr hf3
    have hvle := rN_le hv
    have hNN : N * N ≤ 200 * 200 := Nat.mul_le_mul hN hN
    simp (disch := first | omega | (simp only [za, zb]; done) | (simp only [za, zb]; omega)) [hsv.map2, hsv.take1, hsv.clean, hsv.take, ← eq, ← eh2]
    cases hx : zP (rN es N k) es a b (v - 1) with
    | none =>
      rw [hx] at e3
      simp only [zbt, zbt.pairV'] at e3
      obtain ⟨h4, eh4⟩ : ∃ h4, h4 = h3.new (.cells (edL (0, 0, 0)) 0) := ⟨_, rfl⟩
      have hf4 : Fr h3 h4 := by rw [eh4]; exact .new _ _
      have hn4 : h4.next = h3.next + 1 := by rw [eh4]; simp
      have g04 := (hf4.get _ (by omega)).trans g03
      have g14 := (hf4.get _ (by omega)).trans g13
      obtain ⟨h5, r, e5, hf5, hfv⟩ := ih b a h4 (hrow3.fr hf4) (hm3.fr (D := fun _ => False) hf4.D (by omega) (by simp)) (by omega) (hok.not hv hx)
      have hfn5 := hf5.next
      have g15 := (hf5.get _ (by omega)).trans g14
      obtain ⟨op, lab, bs, nn, cc, er, hr1, hr2, hr3⟩ := hfv.cells
      obtain ⟨h6, eh6⟩ : ∃ h6, h6 = (h5.new (.cells r 0)).put (q + 1) (.cells (fmL 2 0 (.slice (some ⟨h5.next, 0, none⟩) 1 1)) 0) := ⟨_, rfl⟩
      have hf56 : FrD (fun j => j = q + 1) h5 h6 := by rw [eh6]; exact ((FrD.refl (fun j => j = q + 1) _).new _).put (.inr rfl) _
      have hn6 : h6.next = h5.next + 1 := by rw [eh6]; simp
      have hfr6 : Fr h h6 := (((hf2.trans hf3).trans hf4).trans hf5).transD hf56 (fun i hi hd => by omega)
      have g16 : h6.get (q + 1) = some (.cells (fmL 2 0 (.slice (some ⟨h5.next, 0, none⟩) 1 1)) 0) := by rw [eh6, zx rfl]
      have g6 : h6.get h5.next = some (.cells r 0) := by rw [eh6, zm (by omega)]; simp
      refine OkV.eq (OkV.val (v := .agg ⟨fmL 2 0 (.slice (some ⟨h5.next, 0, none⟩) 1 1)⟩) (h := h6) (by
        rw [hPd]
        refine ⟨_, rfl, hfr6, ?_⟩
        rw [TF_not hv hx]
        exact FV.one ((hfv.frD hf56 (fun b hb h => by omega)).mono (fun b hb h => by omega)) g6 (by omega) (by omega))) ?_
      subst er
      simp (disch := first | omega | (simp only [za, zb]; done) | (simp only [za, zb]; omega)) [g0, hsv.map2, hsv.take1, hsv.clean, hsv.take, hlk, z7, e3, ← eh4, g04, e5, zq, zu, g15, ← eh6, g16]
    | some x =>
      rw [hx] at e3
      simp only [zbt, zbt.pairV'] at e3
      obtain ⟨p, ep⟩ : ∃ p, p = h3.next := ⟨_, rfl⟩
      obtain ⟨h6, eh6⟩ : ∃ h6, h6 = (((((h3.new (.cells (edL x) 0)).new (.cells (fmL 3 0 (.slice none 0 0)) 0)).new (.cells (gL st lb sl) 0)).new (.cells [.int .i64 b] 0)).new (.cells [.int .i64 x.2.2] 0)).new (.loop .ready none (setL [p3, p7, p9] [ptr q, ptr h3.next, ptr (h3.next + 1)]) zdD) := ⟨_, rfl⟩
      have hf6 : Fr h3 h6 := by rw [eh6]; exact (((((Fr.new _ _).newR _).newR _).newR _).newR _).newR _
      have hn6 : h6.next = p + 6 := by rw [eh6, ep]; simp
      have gx6 : h6.get p = some (.cells (edL x) 0) := by rw [eh6, ep]; simp (disch := first | omega | (simp only [za, zb]; done) | (simp only [za, zb]; omega)) []
      have ga6 : h6.get (p + 1) = some (.cells (fmL 3 0 (.slice none 0 0)) 0) := by rw [eh6, ep]; simp (disch := first | omega | (simp only [za, zb]; done) | (simp only [za, zb]; omega)) []
      have gg6 : h6.get (p + 1 + 1) = some (.cells (gL st lb sl) 0) := by rw [eh6, ep]; simp (disch := first | omega | (simp only [za, zb]; done) | (simp only [za, zb]; omega)) []
      have gb6 : h6.get (p + 1 + 1 + 1) = some (.cells [.int .i64 b] 0) := by rw [eh6, ep]; simp (disch := first | omega | (simp only [za, zb]; done) | (simp only [za, zb]; omega)) []
      have gl6 : h6.get (p + 1 + 1 + 1 + 1) = some (.cells [.int .i64 x.2.2] 0) := by rw [eh6, ep]; simp (disch := first | omega | (simp only [za, zb]; done) | (simp only [za, zb]; omega)) []
      have gL6 : h6.get (p + 1 + 1 + 1 + 1 + 1) = some (.loop .ready none (setL [p3, p7, p9] [ptr q, ptr p, ptr (p + 1)]) zdD) := by rw [eh6, ep]; simp (disch := first | omega | (simp only [za, zb]; done) | (simp only [za, zb]; omega)) []
      obtain ⟨L, eL⟩ : ∃ L, L = p + 1 + 1 + 1 + 1 + 1 := ⟨_, rfl⟩
      rw [← eL] at gL6
      have g06 := (hf6.get _ (by omega)).trans g03
      have g16 := (hf6.get _ (by omega)).trans g13
      have hrow6 := hrow3.fr hf6
      have hsl6 : ∀ b o n c, sl = .slice (some ⟨b, o, none⟩) n c → b < h.next := fun b o n c e => hrow.lt e
      have hm6 := hm3.fr (D := fun _ => False) hf6.D (by omega) (by simp)
      obtain ⟨lo, elo⟩ : ∃ lo, lo = h6.next + 4 := ⟨_, rfl⟩
      have hot := tos_len es b x.2.2
      simp (disch := first | omega | (simp only [za, zb]; done) | (simp only [za, zb]; omega)) [g0, hsv.map2, hsv.take1, hsv.clean, hsv.take, hlk, z7, e3, g03, zhi, ← ep, zq, zu]
      rw [← ep] at eh6
      simp only [← eh6, ← eL]
      refine OkV.call (zfM es hs hsz b x.2.2 st lb (.func (.yield L) #[] #[]) rfl rfl rfl sl (p + 1 + 1) (p + 1 + 1 + 1) (p + 1 + 1 + 1 + 1) h6 (M := fun j => j = L ∨ j = p + 1 ∨ lo ≤ j) (fun i hi => by omega) hrow6 (by omega) (by omega) (by omega) (fun b o n c e => by have := hsl6 b o n c e; omega) (by omega) gg6 (by omega) gb6 (by omega) gl6
        (fun i h1 => h1.get L = some (.loop .ready none (setL [p3, p7, p9] [ptr q, ptr p, ptr (p + 1)]) zdD) ∧ FrD (fun j => j = L ∨ j = p + 1 ∨ lo ≤ j) h6 h1 ∧ ∃ v rows ob, h1.get (p + 1) = some (.cells (fmL 3 0 v) 0) ∧ Grow h1 3 v rows ob ∧ (∀ q, ob = some q → lo ≤ q) ∧ FVs (fun q => lo ≤ q ∧ ob ≠ some q) h1 (((tos es b x.2.2).take i).map fun t => TF es N k x.2.1 t) rows)
        (fun _ => False) ?_ ?_ ?_ ?_
        (P := fun _ h' => FrD (fun j => j = L ∨ j = p + 1 ∨ lo ≤ j) h6 h' ∧ h'.get L = some (.loop .ready none (setL [p3, p7, p9] [ptr q, ptr p, ptr (p + 1)]) zdD) ∧ ∃ v rows ob, h'.get (p + 1) = some (.cells (fmL 3 0 v) 0) ∧ Grow h' 3 v rows ob ∧ (∀ q, ob = some q → lo ≤ q) ∧ FVs (fun q => lo ≤ q ∧ ob ≠ some q) h' ((tos es b x.2.2).map fun t => TF es N k x.2.1 t) rows) ?_) ?_
      · rintro i h1 h7 ⟨q1, q2, v', rows, ob, q3, q4, q5, q6⟩ hf
        have := q2.next
        refine ⟨(hf.get _ (by omega) (by omega)).trans q1, ⟨Nat.le_trans q2.next hf.next, fun j hj hd => (hf.get _ (by omega) (by omega)).trans (q2.get _ hj hd)⟩, v', rows, ob, (hf.get _ (by omega) (by omega)).trans q3, q4.frD hf (fun b e => by have := q5 b e; omega), q5, FVs.frD hf (fun b hb h => by omega) q6⟩
      · intro h1 h2 h; exact h.elim
      · rintro i w h1 hw ⟨q1, q2, v', rows, ob, q3, q4, q5, q6⟩ hn
        rw [List.getElem?_map] at hw
        obtain ⟨t, ht, rfl⟩ := Option.map_eq_some_iff.1 hw
        have hil : i < (tos es b x.2.2).length := by
          rcases Nat.lt_or_ge i (tos es b x.2.2).length with h' | h'
          · exact h'
          · rw [List.getElem?_eq_none h'] at ht; cases ht
        have hrl := FVs.len q6
        refine fml_round es N k m st lb sl nm n ih x t (hok.can hv hx (List.mem_of_getElem? ht)) L q p (p + 1) h1 (hrow6.frD q2 (fun b o n c e => by have := hsl6 b o n c e; omega)) (fun b o n c e => by have := hsl6 b o n c e; omega) (hm6.fr q2 (by omega) (by omega)) (by omega) (by omega) q1 ((q2.get _ (by omega) (by omega)).trans g06) ((q2.get _ (by omega) (by omega)).trans gx6) (by omega) (by omega) (by omega) (by omega) (by omega) (by omega) (by omega) v' rows ob q3 q4 lo (by omega) q5 (by omega) (by omega) _ q6 (by rw [hrl, List.length_map, List.length_take]; omega) ?_
        intro h' v'' rows' ob' r1 r2 r3 r4 r5 r6
        refine ⟨r1, .inl ⟨rfl, r2, q2.trans r1, v'', rows', ob', r3, r4, r5, ?_⟩⟩
        rw [List.take_add_one, ht, List.map_append]
        exact r6
      · exact ⟨gL6, .refl _ _, _, [], none, ga6, .nil, by simp, by simp [FVs]⟩
      · rintro h' hf (⟨q1, q2, q3⟩ | h)
        · rw [List.take_length] at q3
          exact ⟨hf, q1, q3⟩
        · exact h.elim
      · rintro u h7 ⟨hf, gL7, w, rows, ob, ga7, hg7, hob7, hfs7⟩
        have hfn := hf.next
        have g17 := (hf.get _ (by omega) (by omega)).trans g16
        have gx7 := (hf.get _ (by omega) (by omega)).trans gx6
        rw [zcH gL7, s_f_0]
        obtain ⟨h8, eh8⟩ : ∃ h8, h8 = h7.put L (.loop .exhausted none (setL [p3, p7, p9] [ptr q, ptr p, ptr (p + 1)]) zdD) := ⟨_, rfl⟩
        have hf8 : FrD (fun j => j = L) h7 h8 := by rw [eh8]; exact (FrD.refl (fun j => j = L) _).put (.inr rfl) _
        have hn8 : h8.next = h7.next := by rw [eh8]; simp
        have g18 := (hf8.get _ (by omega) (by omega)).trans g17
        have gx8 := (hf8.get _ (by omega) (by omega)).trans gx7
        have ga8 := (hf8.get _ (by omega) (by omega)).trans ga7
        obtain ⟨h9, eh9⟩ : ∃ h9, h9 = (h8.new (.cells (fmL 3 0 w) 0)).put (q + 1) (.cells (fmL 4 x.2.2 (.slice (some ⟨h8.next, 0, none⟩) 1 1)) 0) := ⟨_, rfl⟩
        have hf89 : FrD (fun j => j = q + 1) h8 h9 := by rw [eh9]; exact ((FrD.refl (fun j => j = q + 1) _).new _).put (.inr rfl) _
        have hn9 : h9.next = h8.next + 1 := by rw [eh9]; simp
        have g19 : h9.get (q + 1) = some (.cells (fmL 4 x.2.2 (.slice (some ⟨h8.next, 0, none⟩) 1 1)) 0) := by rw [eh9, zx rfl]
        have gn9 : h9.get h8.next = some (.cells (fmL 3 0 w) 0) := by rw [eh9, zm (by omega)]; simp
        have hfr9 : Fr h h9 := ⟨by omega, fun i hi => by
          rw [hf89.get _ (by omega) (by omega), hf8.get _ (by omega) (by omega), hf.get _ (by omega) (by omega), hf6.get _ (by omega), hf3.get _ (by omega)]; exact hf2.get _ hi⟩
        have hwv := hg7.slv
        have hfD79 : FrD (fun j => j = L ∨ j = q + 1) h7 h9 := (hf8.mono (fun _ _ h => .inl h)).trans (hf89.mono (fun _ _ h => .inr h))
        have hand : FV (fun q => h.next ≤ q) h9 (.mk 3 0 ((tos es b x.2.2).map fun t => TF es N k x.2.1 t)) (fmL 3 0 w) := by
          unfold FV
          have hrl := FVs.len hfs7
          refine ⟨w, rows, rfl, (hg7.row (by omega)).frD hfD79 (fun b o n c e hd => by have := hob7 _ (hg7.block e); omega), fun b o n c e => by have := hob7 _ (hg7.block e); omega, by rw [hrl, List.length_map]; omega, ?_⟩
          exact FVs.mono (fun b hb h => by omega) (FVs.frD hfD79 (fun b hb h hd => by omega) hfs7)
        refine OkV.eq (OkV.val (v := .agg ⟨fmL 4 x.2.2 (.slice (some ⟨h8.next, 0, none⟩) 1 1)⟩) (h := h9) (by
          rw [hPd]
          refine ⟨_, rfl, hfr9, ?_⟩
          rw [TF_can hv hx]
          exact FV.one hand gn9 (by omega) (by omega))) ?_
        simp (disch := first | omega | (simp only [za, zb]; done) | (simp only [za, zb]; omega)) [← eh8, g18, gx8, ga8, hwv.one, hwv.take, hwv.clean, zq, zu, ← eh9, g19]
end Go.Ideal.J
