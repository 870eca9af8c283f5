/- A part of the proof: the ideal machine, and what the functions of the program answer over it. -/
import Derived.Test.YtanaepeilcjhcaaD
set_option linter.unusedSimpArgs false
set_option linter.unusedVariables false
noncomputable section
namespace Go.Ideal.J
open Go Go.Ideal
set_option maxRecDepth 100000
set_option linter.unusedVariables false
theorem s_cabotagelaw22_JudgeHolds (X : Rn) (t0 t1 t2 : Value) (h : H) : shFunc X 3 f_cabotagelaw22_JudgeHolds [t0, t1, t2] h =
    k2 (some (newPtr h (cellsL t0))) fun t3 h1 =>
    k2 (some (newPtr h1 (cellsL t1))) fun t4 h2 =>
    k2 (some ((.bool false), h2)) fun t6 h3 =>
    k2 (vLoadN 3 t3 h3) fun t12 h4 =>
    k2 (vLoadN 3 t4 h4) fun t13 h5 =>
    k2 (some (t2, h5)) fun t14 h6 =>
    k2 (X.call (.func (.func n_judge_Holds) #[] #[]) [t12, t13, t14] h6) fun t15 h7 =>
    k2 (some (t15, h7)) fun t11 h8 =>
    k2 (vExtract 0 t11 h8) fun t16 h9 =>
    k2 (vExtract 1 t11 h9) fun t17 h10 =>
    k2 (some (t16, h10)) fun t7 h11 =>
    k2 (some (t17, h11)) fun t8 h12 =>
    k2 (vLoadN 3 t3 h12) fun t19 h13 =>
    k2 (vLoadN 3 t4 h13) fun t20 h14 =>
    k2 (some (t2, h14)) fun t21 h15 =>
    k2 (X.call (.func (.func n_cabotageref22_Holds) #[] #[]) [t19, t20, t21] h15) fun t22 h16 =>
    k2 (some (t22, h16)) fun t18 h17 =>
    k2 (vExtract 0 t18 h17) fun t23 h18 =>
    k2 (vExtract 1 t18 h18) fun t24 h19 =>
    k2 (some (t23, h19)) fun t9 h20 =>
    k2 (some (t24, h20)) fun t10 h21 =>
    k2 (some (t7, h21)) fun t25 h22 =>
    k2 (some (t9, h22)) fun t26 h23 =>
    k2 (vBin .eql .bool t25 t26 h23) fun t27 h24 =>
    k2 (some (t27, h24)) fun t28 h25 =>
    k2 (gd t28 true h25 (some (t8, h25))) fun t29 h26 =>
    k2 (gd t28 true h26 (some (t10, h26))) fun t30 h27 =>
    k2 (gd t28 true h27 (vBin .eql .other t29 t30 h27)) fun t31 h28 =>
    k2 (vPick t28 t31 (.bool false) h28) fun t32 h29 =>
    k2 (some (t32, h29)) fun t33 h30 =>
    k2 (gd t33 true h30 (X.call (.func (.func n_cabotagelaw22_known) #[] #[]) [] h30)) fun t34 h31 =>
    k2 (vPick t33 t34 (.bool false) h31) fun t35 h32 =>
    k2 (some (t35, h32)) fun t6 h33 =>
    some (.val (tupleOf [t6]) h33) := by kernel_rfl
theorem s_judge_Weak (X : Rn) (t0 : Value) (h : H) : shFunc X 1 f_judge_Weak [t0] h =
    k2 (some (newPtr h (cellsL t0))) fun t1 h1 =>
    k2 (some (newPtr h1 [(.int .i64 0), (.int .i64 0), (.slice none 0 0)])) fun t2 h2 =>
    k2 (some ((.int .i64 0), h2)) fun t3 h3 =>
    k2 (vLoadN 3 t1 h3) fun t5 h4 =>
    k2 (X.call (.func (.func n_judge_Check) #[] #[]) [t5] h4) fun t6 h5 =>
    k2 (vBin .neq .other t6 (.int .i64 0) h5) fun t7 h6 =>
    br t7
      (k2 ((fillL [(.int .i64 0), (.int .i64 0), (.slice none 0 0)] []).map fun c => (Value.agg ⟨c⟩, h6)) fun t8 h7 =>
    k2 (vStore 3 t2 t8 h7) fun _ h8 =>
    k2 (some ((.int .i64 2), h8)) fun t3 h9 =>
    (vRes (some 3) t2 h9).bind fun r0 => some (.val (tupleOf [r0, t3]) h9))
      (k2 (vLoadN 3 t1 h6) fun t9 h10 =>
    k2 (X.call (.func (.func n_judge_weak) #[] #[]) [t9] h10) fun t10 h11 =>
    k2 (some (newPtr h11 [(.int .i64 0), (.int .i64 0), (.slice none 0 0)])) fun t4 h12 =>
    k2 (vStore 3 t4 t10 h12) fun _ h13 =>
    k2 (vField 2 t4 h13) fun t11 h14 =>
    k2 (vLoad1 t11 h14) fun t12 h15 =>
    k2 (bltV h15 .len [t12]) fun t13 h16 =>
    k2 (vBin .gtr .other t13 (.int .i64 400) h16) fun t14 h17 =>
    br t14
      (k2 ((fillL [(.int .i64 0), (.int .i64 0), (.slice none 0 0)] []).map fun c => (Value.agg ⟨c⟩, h17)) fun t15 h18 =>
    k2 (vStore 3 t2 t15 h18) fun _ h19 =>
    k2 (some ((.int .i64 3), h19)) fun t3 h20 =>
    (vRes (some 3) t2 h20).bind fun r0 => some (.val (tupleOf [r0, t3]) h20))
      (k2 (vLoadN 3 t4 h17) fun t16 h21 =>
    k2 (vStore 3 t2 t16 h21) fun _ h22 =>
    k2 (some ((.int .i64 0), h22)) fun t3 h23 =>
    (vRes (some 3) t2 h23).bind fun r0 => some (.val (tupleOf [r0, t3]) h23))) := by kernel_rfl
theorem s_judge_Check_0 (X : Rn) (h : H) : sh X c_judge_Check_0 (K_judge_Check_0 X) (setL [] []) h =
    k2 (some ((.int .i64 0), h)) fun t2 h1 =>
    some (.val (tupleOf [t2]) h1) := by kernel_rfl
theorem s_judge_Check_1 (X : Rn) (t1 t30 t31 t32 : Value) (h : H) : sh X c_judge_Check_1 (K_judge_Check_1 X) (setL [p1, p30, p31, p32] [t1, t30, t31, t32]) h =
    k2 (vBin .lss .other t32 t31 h) fun t33 h1 =>
    br t33
      (k2 (some (t32, h1)) fun t34 h2 =>
    k2 (vIndex 3 t30 t32 h2) fun t35 h3 =>
    k2 (vLoadN 3 t35 h3) fun t36 h4 =>
    k2 (some (newPtr h4 [(.int .i64 0), (.int .i64 0), (.int .i64 0)])) fun t4 h5 =>
    k2 (some (t34, h5)) fun t3 h6 =>
    k2 (vStore 3 t4 t36 h6) fun _ h7 =>
    k2 (vField 0 t4 h7) fun t37 h8 =>
    k2 (rdF (fun b => vLoad1 t37 b) 0 h8 [(0, h7)]) fun t38 h9 =>
    k2 (vField 1 t4 h9) fun t39 h10 =>
    k2 (rdF (fun b => vLoad1 t39 b) 0 h10 [(0, h7)]) fun t40 h11 =>
    k2 (vField 2 t4 h11) fun t41 h12 =>
    k2 (rdF (fun b => vLoad1 t41 b) 0 h12 [(0, h7)]) fun t42 h13 =>
    k2 (bltV h13 .min [t38, t40, t42]) fun t43 h14 =>
    k2 (vBin .lss .other t43 (.int .i64 0) h14) fun t44 h15 =>
    k2 (some (t44, h15)) fun t45 h16 =>
    k2 (gd t45 false h16 (vField 0 t4 h16)) fun t46 h17 =>
    k2 (gd t45 false h17 (rdF (fun b => vLoad1 t46 b) 0 h17 [(0, h7)])) fun t47 h18 =>
    k2 (gd t45 false h18 (vField 1 t4 h18)) fun t48 h19 =>
    k2 (gd t45 false h19 (rdF (fun b => vLoad1 t48 b) 0 h19 [(0, h7)])) fun t49 h20 =>
    k2 (gd t45 false h20 (bltV h20 .max [t47, t49])) fun t50 h21 =>
    k2 (gd t45 false h21 (vField 0 t1 h21)) fun t51 h22 =>
    k2 (gd t45 false h22 (rdF (fun b => vLoad1 t51 b) 0 h22 [(0, h7)])) fun t52 h23 =>
    k2 (gd t45 false h23 (vBin .geq .other t50 t52 h23)) fun t53 h24 =>
    k2 (vPick t45 (.bool true) t53 h24) fun t54 h25 =>
    k2 (some (t54, h25)) fun t55 h26 =>
    k2 (gd t55 false h26 (vField 2 t4 h26)) fun t56 h27 =>
    k2 (gd t55 false h27 (rdF (fun b => vLoad1 t56 b) 0 h27 [(0, h7)])) fun t57 h28 =>
    k2 (gd t55 false h28 (vField 1 t1 h28)) fun t58 h29 =>
    k2 (gd t55 false h29 (rdF (fun b => vLoad1 t58 b) 0 h29 [(0, h7)])) fun t59 h30 =>
    k2 (gd t55 false h30 (vBin .geq .other t57 t59 h30)) fun t60 h31 =>
    k2 (vPick t55 (.bool true) t60 h31) fun t61 h32 =>
    k2 (some (t61, h32)) fun t62 h33 =>
    k2 (gd t62 false h33 (some (t3, h33))) fun t63 h34 =>
    k2 (gd t62 false h34 (vBin .gtr .other t63 (.int .i64 0) h34)) fun t64 h35 =>
    k2 (gd t62 false h35 (some (t64, h35))) fun t65 h36 =>
    k2 (gd t65 true h36 (vField 2 t1 h36)) fun t66 h37 =>
    k2 (gd t65 true h37 (rdF (fun b => vLoad1 t66 b) 0 h37 [(0, h7)])) fun t67 h38 =>
    k2 (gd t65 true h38 (some (t3, h38))) fun t68 h39 =>
    k2 (gd t65 true h39 (vBin .sub .other t68 (.int .i64 1) h39)) fun t69 h40 =>
    k2 (gd t65 true h40 (vIndex 3 t67 t69 h40)) fun t70 h41 =>
    k2 (gd t65 true h41 (rdF (fun b => vLoadN 3 t70 b) 0 h41 [(0, h7)])) fun t71 h42 =>
    k2 (gd t65 true h42 (rdF (fun b => vLoadN 3 t4 b) 0 h42 [(0, h7)])) fun t72 h43 =>
    k2 (gd t65 true h43 (X.call (.func (.func n_judge_compare) #[] #[]) [t71, t72] h43)) fun t73 h44 =>
    k2 (gd t65 true h44 (vBin .geq .other t73 (.int .i64 0) h44)) fun t74 h45 =>
    k2 (gd t62 false h45 (vPick t65 t74 (.bool false) h45)) fun t75 h46 =>
    k2 (vPick t62 (.bool true) t75 h46) fun t76 h47 =>
    br t76
      (k2 (some ((.int .i64 2), h47)) fun t2 h48 =>
    some (.val (tupleOf [t2]) h48))
      (k2 (vBin .add .other t32 (.int .i64 1) h47) fun t77 h49 =>
    k2 (some (t77, h49)) fun t32_50 h51 =>
    lp X [p1, p30, p31, p32] c_judge_Check_1 (kBlk 0 (kSeq X c_judge_Check_0 [] (K_judge_Check_0 X))) [t1, t30, t31, t32_50] h51))
      (sh X c_judge_Check_0 (K_judge_Check_0 X) (setL [] []) h1) := by kernel_rfl
theorem l_judge_Check_1 (F : FuncId → Option CFunc) (t1 t30 t31 t32 : Value) (h : H) {r : Out} : let X := rI F; sh X c_judge_Check_1 (K_judge_Check_1 X) (setL [p1, p30, p31, p32] [t1, t30, t31, t32]) h = some r → lp X [p1, p30, p31, p32] c_judge_Check_1 (kBlk 0 (kSeq X c_judge_Check_0 [] (K_judge_Check_0 X))) [t1, t30, t31, t32] h = some r := fun hv => lp_step (by decide) hv
theorem s_judge_Check (X : Rn) (t0 : Value) (h : H) : shFunc X 1 f_judge_Check [t0] h =
    k2 (some (newPtr h (cellsL t0))) fun t1 h1 =>
    k2 (some ((.int .i64 0), h1)) fun t2 h2 =>
    k2 (vField 0 t1 h2) fun t5 h3 =>
    k2 (vLoad1 t5 h3) fun t6 h4 =>
    k2 (vBin .lss .other t6 (.int .i64 1) h4) fun t7 h5 =>
    k2 (some (t7, h5)) fun t8 h6 =>
    k2 (gd t8 false h6 (vField 0 t1 h6)) fun t9 h7 =>
    k2 (gd t8 false h7 (vLoad1 t9 h7)) fun t10 h8 =>
    k2 (gd t8 false h8 (vBin .gtr .other t10 (.int .i64 60) h8)) fun t11 h9 =>
    k2 (vPick t8 (.bool true) t11 h9) fun t12 h10 =>
    k2 (some (t12, h10)) fun t13 h11 =>
    k2 (gd t13 false h11 (vField 1 t1 h11)) fun t14 h12 =>
    k2 (gd t13 false h12 (vLoad1 t14 h12)) fun t15 h13 =>
    k2 (gd t13 false h13 (vBin .lss .other t15 (.int .i64 1) h13)) fun t16 h14 =>
    k2 (vPick t13 (.bool true) t16 h14) fun t17 h15 =>
    k2 (some (t17, h15)) fun t18 h16 =>
    k2 (gd t18 false h16 (vField 1 t1 h16)) fun t19 h17 =>
    k2 (gd t18 false h17 (vLoad1 t19 h17)) fun t20 h18 =>
    k2 (gd t18 false h18 (vBin .gtr .other t20 (.int .i64 41) h18)) fun t21 h19 =>
    k2 (vPick t18 (.bool true) t21 h19) fun t22 h20 =>
    k2 (some (t22, h20)) fun t23 h21 =>
    k2 (gd t23 false h21 (vField 2 t1 h21)) fun t24 h22 =>
    k2 (gd t23 false h22 (vLoad1 t24 h22)) fun t25 h23 =>
    k2 (gd t23 false h23 (bltV h23 .len [t25])) fun t26 h24 =>
    k2 (gd t23 false h24 (vBin .gtr .other t26 (.int .i64 400) h24)) fun t27 h25 =>
    k2 (vPick t23 (.bool true) t27 h25) fun t28 h26 =>
    br t28
      (k2 (some ((.int .i64 2), h26)) fun t2 h27 =>
    some (.val (tupleOf [t2]) h27))
      (k2 (vField 2 t1 h26) fun t29 h28 =>
    k2 (vLoad1 t29 h28) fun t30 h29 =>
    k2 (bltV h29 .len [t30]) fun t31 h30 =>
    k2 (some ((.int .i64 0), h30)) fun t32 h31 =>
    lp X [p1, p30, p31, p32] c_judge_Check_1 (kBlk 0 (kSeq X c_judge_Check_0 [] (K_judge_Check_0 X))) [t1, t30, t31, t32] h31) := by kernel_rfl
theorem s_cabotageref22_Check_0 (X : Rn) (h : H) : sh X c_cabotageref22_Check_0 (K_cabotageref22_Check_0 X) (setL [] []) h =
    k2 (some ((.int .i64 0), h)) fun t2 h1 =>
    some (.val (tupleOf [t2]) h1) := by kernel_rfl
theorem s_cabotageref22_Check_1 (X : Rn) (t1 t3 : Value) (h : H) : sh X c_cabotageref22_Check_1 (K_cabotageref22_Check_1 X) (setL [p1, p3] [t1, t3]) h =
    k2 (some (t3, h)) fun t29 h1 =>
    k2 (vField 2 t1 h1) fun t30 h2 =>
    k2 (vLoad1 t30 h2) fun t31 h3 =>
    k2 (bltV h3 .len [t31]) fun t32 h4 =>
    k2 (vBin .lss .other t29 t32 h4) fun t33 h5 =>
    br t33
      (k2 (vField 2 t1 h5) fun t36 h6 =>
    k2 (vLoad1 t36 h6) fun t37 h7 =>
    k2 (some (t3, h7)) fun t38 h8 =>
    k2 (vIndex 3 t37 t38 h8) fun t39 h9 =>
    k2 (vLoadN 3 t39 h9) fun t40 h10 =>
    k2 (some (newPtr h10 [(.int .i64 0), (.int .i64 0), (.int .i64 0)])) fun t4 h11 =>
    k2 (vStore 3 t4 t40 h11) fun _ h12 =>
    k2 (vField 0 t4 h12) fun t41 h13 =>
    k2 (rdF (fun b => vLoad1 t41 b) 0 h13 [(0, h12)]) fun t42 h14 =>
    k2 (vBin .lss .other t42 (.int .i64 0) h14) fun t43 h15 =>
    k2 (some (t43, h15)) fun t44 h16 =>
    k2 (gd t44 false h16 (vField 0 t4 h16)) fun t45 h17 =>
    k2 (gd t44 false h17 (rdF (fun b => vLoad1 t45 b) 0 h17 [(0, h12)])) fun t46 h18 =>
    k2 (gd t44 false h18 (vField 0 t1 h18)) fun t47 h19 =>
    k2 (gd t44 false h19 (rdF (fun b => vLoad1 t47 b) 0 h19 [(0, h12)])) fun t48 h20 =>
    k2 (gd t44 false h20 (vBin .geq .other t46 t48 h20)) fun t49 h21 =>
    k2 (vPick t44 (.bool true) t49 h21) fun t50 h22 =>
    k2 (some (t50, h22)) fun t51 h23 =>
    k2 (gd t51 false h23 (vField 1 t4 h23)) fun t52 h24 =>
    k2 (gd t51 false h24 (rdF (fun b => vLoad1 t52 b) 0 h24 [(0, h12)])) fun t53 h25 =>
    k2 (gd t51 false h25 (vBin .lss .other t53 (.int .i64 0) h25)) fun t54 h26 =>
    k2 (vPick t51 (.bool true) t54 h26) fun t55 h27 =>
    k2 (some (t55, h27)) fun t56 h28 =>
    k2 (gd t56 false h28 (vField 1 t4 h28)) fun t57 h29 =>
    k2 (gd t56 false h29 (rdF (fun b => vLoad1 t57 b) 0 h29 [(0, h12)])) fun t58 h30 =>
    k2 (gd t56 false h30 (vField 0 t1 h30)) fun t59 h31 =>
    k2 (gd t56 false h31 (rdF (fun b => vLoad1 t59 b) 0 h31 [(0, h12)])) fun t60 h32 =>
    k2 (gd t56 false h32 (vBin .geq .other t58 t60 h32)) fun t61 h33 =>
    k2 (vPick t56 (.bool true) t61 h33) fun t62 h34 =>
    k2 (some (t62, h34)) fun t63 h35 =>
    k2 (gd t63 false h35 (vField 2 t4 h35)) fun t64 h36 =>
    k2 (gd t63 false h36 (rdF (fun b => vLoad1 t64 b) 0 h36 [(0, h12)])) fun t65 h37 =>
    k2 (gd t63 false h37 (vBin .lss .other t65 (.int .i64 0) h37)) fun t66 h38 =>
    k2 (vPick t63 (.bool true) t66 h38) fun t67 h39 =>
    k2 (some (t67, h39)) fun t68 h40 =>
    k2 (gd t68 false h40 (vField 2 t4 h40)) fun t69 h41 =>
    k2 (gd t68 false h41 (rdF (fun b => vLoad1 t69 b) 0 h41 [(0, h12)])) fun t70 h42 =>
    k2 (gd t68 false h42 (vField 1 t1 h42)) fun t71 h43 =>
    k2 (gd t68 false h43 (rdF (fun b => vLoad1 t71 b) 0 h43 [(0, h12)])) fun t72 h44 =>
    k2 (gd t68 false h44 (vBin .geq .other t70 t72 h44)) fun t73 h45 =>
    k2 (vPick t68 (.bool true) t73 h45) fun t74 h46 =>
    k2 (some (t74, h46)) fun t75 h47 =>
    k2 (gd t75 false h47 (some (t3, h47))) fun t76 h48 =>
    k2 (gd t75 false h48 (vBin .gtr .other t76 (.int .i64 0) h48)) fun t77 h49 =>
    k2 (gd t75 false h49 (some (t77, h49))) fun t78 h50 =>
    k2 (gd t78 true h50 (vField 2 t1 h50)) fun t79 h51 =>
    k2 (gd t78 true h51 (rdF (fun b => vLoad1 t79 b) 0 h51 [(0, h12)])) fun t80 h52 =>
    k2 (gd t78 true h52 (some (t3, h52))) fun t81 h53 =>
    k2 (gd t78 true h53 (vBin .sub .other t81 (.int .i64 1) h53)) fun t82 h54 =>
    k2 (gd t78 true h54 (vIndex 3 t80 t82 h54)) fun t83 h55 =>
    k2 (gd t78 true h55 (rdF (fun b => vLoadN 3 t83 b) 0 h55 [(0, h12)])) fun t84 h56 =>
    k2 (gd t78 true h56 (rdF (fun b => vLoadN 3 t4 b) 0 h56 [(0, h12)])) fun t85 h57 =>
    k2 (gd t78 true h57 (X.call (.func (.func n_cabotageref22_less) #[] #[]) [t84, t85] h57)) fun t86 h58 =>
    k2 (gd t78 true h58 (vUn .not t86 h58)) fun t87 h59 =>
    k2 (gd t75 false h59 (vPick t78 t87 (.bool false) h59)) fun t88 h60 =>
    k2 (vPick t75 (.bool true) t88 h60) fun t89 h61 =>
    br t89
      (k2 (some ((.int .i64 2), h61)) fun t2 h62 =>
    some (.val (tupleOf [t2]) h62))
      (k2 (some (t3, h61)) fun t34 h63 =>
    k2 (vBin .add .other t34 (.int .i64 1) h63) fun t35 h64 =>
    k2 (some (t35, h64)) fun t3_65 h66 =>
    lp X [p1, p3] c_cabotageref22_Check_1 (kBlk 0 (kSeq X c_cabotageref22_Check_0 [] (K_cabotageref22_Check_0 X))) [t1, t3_65] h66))
      (sh X c_cabotageref22_Check_0 (K_cabotageref22_Check_0 X) (setL [] []) h5) := by kernel_rfl
theorem l_cabotageref22_Check_1 (F : FuncId → Option CFunc) (t1 t3 : Value) (h : H) {r : Out} : let X := rI F; sh X c_cabotageref22_Check_1 (K_cabotageref22_Check_1 X) (setL [p1, p3] [t1, t3]) h = some r → lp X [p1, p3] c_cabotageref22_Check_1 (kBlk 0 (kSeq X c_cabotageref22_Check_0 [] (K_cabotageref22_Check_0 X))) [t1, t3] h = some r := fun hv => lp_step (by decide) hv
theorem s_cabotageref22_Check (X : Rn) (t0 : Value) (h : H) : shFunc X 1 f_cabotageref22_Check [t0] h =
    k2 (some (newPtr h (cellsL t0))) fun t1 h1 =>
    k2 (some ((.int .i64 0), h1)) fun t2 h2 =>
    k2 (vField 0 t1 h2) fun t5 h3 =>
    k2 (vLoad1 t5 h3) fun t6 h4 =>
    k2 (vBin .lss .other t6 (.int .i64 1) h4) fun t7 h5 =>
    k2 (some (t7, h5)) fun t8 h6 =>
    k2 (gd t8 false h6 (vField 0 t1 h6)) fun t9 h7 =>
    k2 (gd t8 false h7 (vLoad1 t9 h7)) fun t10 h8 =>
    k2 (gd t8 false h8 (vBin .gtr .other t10 (.int .i64 60) h8)) fun t11 h9 =>
    k2 (vPick t8 (.bool true) t11 h9) fun t12 h10 =>
    k2 (some (t12, h10)) fun t13 h11 =>
    k2 (gd t13 false h11 (vField 1 t1 h11)) fun t14 h12 =>
    k2 (gd t13 false h12 (vLoad1 t14 h12)) fun t15 h13 =>
    k2 (gd t13 false h13 (vBin .lss .other t15 (.int .i64 1) h13)) fun t16 h14 =>
    k2 (vPick t13 (.bool true) t16 h14) fun t17 h15 =>
    k2 (some (t17, h15)) fun t18 h16 =>
    k2 (gd t18 false h16 (vField 1 t1 h16)) fun t19 h17 =>
    k2 (gd t18 false h17 (vLoad1 t19 h17)) fun t20 h18 =>
    k2 (gd t18 false h18 (vBin .gtr .other t20 (.int .i64 41) h18)) fun t21 h19 =>
    k2 (vPick t18 (.bool true) t21 h19) fun t22 h20 =>
    k2 (some (t22, h20)) fun t23 h21 =>
    k2 (gd t23 false h21 (vField 2 t1 h21)) fun t24 h22 =>
    k2 (gd t23 false h22 (vLoad1 t24 h22)) fun t25 h23 =>
    k2 (gd t23 false h23 (bltV h23 .len [t25])) fun t26 h24 =>
    k2 (gd t23 false h24 (vBin .gtr .other t26 (.int .i64 400) h24)) fun t27 h25 =>
    k2 (vPick t23 (.bool true) t27 h25) fun t28 h26 =>
    br t28
      (k2 (some ((.int .i64 2), h26)) fun t2 h27 =>
    some (.val (tupleOf [t2]) h27))
      (k2 (some ((.int .i64 0), h26)) fun t3 h28 =>
    lp X [p1, p3] c_cabotageref22_Check_1 (kBlk 0 (kSeq X c_cabotageref22_Check_0 [] (K_cabotageref22_Check_0 X))) [t1, t3] h28) := by kernel_rfl
theorem s_cabotageref22_SameGraph_0 (X : Rn) (h : H) : sh X c_cabotageref22_SameGraph_0 (K_cabotageref22_SameGraph_0 X) (setL [] []) h =
    k2 (some ((.bool true), h)) fun t4 h1 =>
    some (.val (tupleOf [t4]) h1) := by kernel_rfl
theorem s_cabotageref22_SameGraph_1 (X : Rn) (t2 t3 t5 : Value) (h : H) : sh X c_cabotageref22_SameGraph_1 (K_cabotageref22_SameGraph_1 X) (setL [p2, p3, p5] [t2, t3, t5]) h =
    k2 (some (t5, h)) fun t27 h1 =>
    k2 (vField 2 t2 h1) fun t28 h2 =>
    k2 (vLoad1 t28 h2) fun t29 h3 =>
    k2 (bltV h3 .len [t29]) fun t30 h4 =>
    k2 (vBin .lss .other t27 t30 h4) fun t31 h5 =>
    br t31
      (k2 (vField 2 t2 h5) fun t34 h6 =>
    k2 (rdF (fun b => vLoad1 t34 b) 0 h6 [(0, h5)]) fun t35 h7 =>
    k2 (some (t5, h7)) fun t36 h8 =>
    k2 (vIndex 3 t35 t36 h8) fun t37 h9 =>
    k2 (rdF (fun b => vLoadN 3 t37 b) 0 h9 [(0, h5)]) fun t38 h10 =>
    k2 (vField 2 t3 h10) fun t39 h11 =>
    k2 (rdF (fun b => vLoad1 t39 b) 0 h11 [(0, h5)]) fun t40 h12 =>
    k2 (some (t5, h12)) fun t41 h13 =>
    k2 (vIndex 3 t40 t41 h13) fun t42 h14 =>
    k2 (rdF (fun b => vLoadN 3 t42 b) 0 h14 [(0, h5)]) fun t43 h15 =>
    k2 (vBin .neq (.leaves [0, 1, 2]) t38 t43 h15) fun t44 h16 =>
    br t44
      (k2 (some ((.bool false), h16)) fun t4 h17 =>
    some (.val (tupleOf [t4]) h17))
      (k2 (some (t5, h16)) fun t32 h18 =>
    k2 (vBin .add .other t32 (.int .i64 1) h18) fun t33 h19 =>
    k2 (some (t33, h19)) fun t5_20 h21 =>
    lp X [p2, p3, p5] c_cabotageref22_SameGraph_1 (kBlk 0 (kSeq X c_cabotageref22_SameGraph_0 [] (K_cabotageref22_SameGraph_0 X))) [t2, t3, t5_20] h21))
      (sh X c_cabotageref22_SameGraph_0 (K_cabotageref22_SameGraph_0 X) (setL [] []) h5) := by kernel_rfl
theorem l_cabotageref22_SameGraph_1 (F : FuncId → Option CFunc) (t2 t3 t5 : Value) (h : H) {r : Out} : let X := rI F; sh X c_cabotageref22_SameGraph_1 (K_cabotageref22_SameGraph_1 X) (setL [p2, p3, p5] [t2, t3, t5]) h = some r → lp X [p2, p3, p5] c_cabotageref22_SameGraph_1 (kBlk 0 (kSeq X c_cabotageref22_SameGraph_0 [] (K_cabotageref22_SameGraph_0 X))) [t2, t3, t5] h = some r := fun hv => lp_step (by decide) hv
theorem s_cabotageref22_SameGraph (X : Rn) (t0 t1 : Value) (h : H) : shFunc X 2 f_cabotageref22_SameGraph [t0, t1] h =
    k2 (some (newPtr h (cellsL t0))) fun t2 h1 =>
    k2 (some (newPtr h1 (cellsL t1))) fun t3 h2 =>
    k2 (some ((.bool false), h2)) fun t4 h3 =>
    k2 (vField 0 t2 h3) fun t6 h4 =>
    k2 (vLoad1 t6 h4) fun t7 h5 =>
    k2 (vField 0 t3 h5) fun t8 h6 =>
    k2 (vLoad1 t8 h6) fun t9 h7 =>
    k2 (vBin .neq .other t7 t9 h7) fun t10 h8 =>
    k2 (some (t10, h8)) fun t11 h9 =>
    k2 (gd t11 false h9 (vField 1 t2 h9)) fun t12 h10 =>
    k2 (gd t11 false h10 (vLoad1 t12 h10)) fun t13 h11 =>
    k2 (gd t11 false h11 (vField 1 t3 h11)) fun t14 h12 =>
    k2 (gd t11 false h12 (vLoad1 t14 h12)) fun t15 h13 =>
    k2 (gd t11 false h13 (vBin .neq .other t13 t15 h13)) fun t16 h14 =>
    k2 (vPick t11 (.bool true) t16 h14) fun t17 h15 =>
    k2 (some (t17, h15)) fun t18 h16 =>
    k2 (gd t18 false h16 (vField 2 t2 h16)) fun t19 h17 =>
    k2 (gd t18 false h17 (vLoad1 t19 h17)) fun t20 h18 =>
    k2 (gd t18 false h18 (bltV h18 .len [t20])) fun t21 h19 =>
    k2 (gd t18 false h19 (vField 2 t3 h19)) fun t22 h20 =>
    k2 (gd t18 false h20 (vLoad1 t22 h20)) fun t23 h21 =>
    k2 (gd t18 false h21 (bltV h21 .len [t23])) fun t24 h22 =>
    k2 (gd t18 false h22 (vBin .neq .other t21 t24 h22)) fun t25 h23 =>
    k2 (vPick t18 (.bool true) t25 h23) fun t26 h24 =>
    br t26
      (k2 (some ((.bool false), h24)) fun t4 h25 =>
    some (.val (tupleOf [t4]) h25))
      (k2 (some ((.int .i64 0), h24)) fun t5 h26 =>
    lp X [p2, p3, p5] c_cabotageref22_SameGraph_1 (kBlk 0 (kSeq X c_cabotageref22_SameGraph_0 [] (K_cabotageref22_SameGraph_0 X))) [t2, t3, t5] h26) := by kernel_rfl
theorem s_cabotagelaw22_known (X : Rn) (h : H) : shFunc X 0 f_cabotagelaw22_known [] h =
    k2 (some ((.bool false), h)) fun t0 h1 =>
    k2 ((fillL [(.int .i64 0), (.int .i64 0), (.int .i64 0)] [(0, 1, (.int .i64 0)), (1, 1, (.int .i64 1)), (2, 1, (.int .i64 1))]).map fun c => (Value.agg ⟨c⟩, h1)) fun t17 h2 =>
    k2 ((fillL [(.int .i64 0), (.int .i64 0), (.int .i64 0)] [(0, 1, (.int .i64 1)), (1, 1, (.int .i64 2)), (2, 1, (.int .i64 1))]).map fun c => (Value.agg ⟨c⟩, h2)) fun t18 h3 =>
    k2 ((fillL [(.int .i64 0), (.int .i64 0), (.int .i64 0)] [(0, 1, (.int .i64 1)), (1, 1, (.int .i64 3)), (2, 1, (.int .i64 2))]).map fun c => (Value.agg ⟨c⟩, h3)) fun t19 h4 =>
    k2 (vSlice 3 (fillL (repeatL [(.int .i64 0), (.int .i64 0), (.int .i64 0)] 3) [(0 * 3, 3, t17), (1 * 3, 3, t18), (2 * 3, 3, t19)]) h4) fun t20 h5 =>
    k2 (X.call (.func (.func n_cabotagelaw22_edges) #[] #[]) [t20] h5) fun t21 h6 =>
    k2 ((fillL [(.int .i64 0), (.int .i64 0), (.slice none 0 0)] [(0, 1, (.int .i64 4)), (1, 1, (.int .i64 3)), (2, 1, t21)]).map fun c => (Value.agg ⟨c⟩, h6)) fun t22 h7 =>
    k2 (some (newPtr h7 [(.int .i64 0), (.int .i64 0), (.slice none 0 0)])) fun t1 h8 =>
    k2 (vStore 3 t1 t22 h8) fun _ h9 =>
    k2 ((fillL [(.int .i64 0), (.int .i64 0), (.int .i64 0)] [(0, 1, (.int .i64 0)), (1, 1, (.int .i64 1)), (2, 1, (.int .i64 1))]).map fun c => (Value.agg ⟨c⟩, h9)) fun t23 h10 =>
    k2 ((fillL [(.int .i64 0), (.int .i64 0), (.int .i64 0)] [(0, 1, (.int .i64 0)), (1, 1, (.int .i64 2)), (2, 1, (.int .i64 1))]).map fun c => (Value.agg ⟨c⟩, h10)) fun t24 h11 =>
    k2 ((fillL [(.int .i64 0), (.int .i64 0), (.int .i64 0)] [(0, 1, (.int .i64 1)), (1, 1, (.int .i64 3)), (2, 1, (.int .i64 1))]).map fun c => (Value.agg ⟨c⟩, h11)) fun t25 h12 =>
    k2 ((fillL [(.int .i64 0), (.int .i64 0), (.int .i64 0)] [(0, 1, (.int .i64 2)), (1, 1, (.int .i64 4)), (2, 1, (.int .i64 2))]).map fun c => (Value.agg ⟨c⟩, h12)) fun t26 h13 =>
    k2 (vSlice 4 (fillL (repeatL [(.int .i64 0), (.int .i64 0), (.int .i64 0)] 4) [(0 * 3, 3, t23), (1 * 3, 3, t24), (2 * 3, 3, t25), (3 * 3, 3, t26)]) h13) fun t27 h14 =>
    k2 (X.call (.func (.func n_cabotagelaw22_edges) #[] #[]) [t27] h14) fun t28 h15 =>
    k2 ((fillL [(.int .i64 0), (.int .i64 0), (.slice none 0 0)] [(0, 1, (.int .i64 5)), (1, 1, (.int .i64 3)), (2, 1, t28)]).map fun c => (Value.agg ⟨c⟩, h15)) fun t29 h16 =>
    k2 (some (newPtr h16 [(.int .i64 0), (.int .i64 0), (.slice none 0 0)])) fun t2 h17 =>
    k2 (vStore 3 t2 t29 h17) fun _ h18 =>
    k2 (vLoadN 3 t1 h18) fun t31 h19 =>
    k2 (X.call (.func (.func n_judge_Classes) #[] #[]) [t31] h19) fun t32 h20 =>
    k2 (some (t32, h20)) fun t30 h21 =>
    k2 (vExtract 0 t30 h21) fun t33 h22 =>
    k2 (vExtract 1 t30 h22) fun t34 h23 =>
    k2 (some (t33, h23)) fun t3 h24 =>
    k2 (some (t34, h24)) fun t4 h25 =>
    k2 (vLoadN 3 t2 h25) fun t36 h26 =>
    k2 (X.call (.func (.func n_judge_Classes) #[] #[]) [t36] h26) fun t37 h27 =>
    k2 (some (t37, h27)) fun t35 h28 =>
    k2 (vExtract 0 t35 h28) fun t38 h29 =>
    k2 (vExtract 1 t35 h29) fun t39 h30 =>
    k2 (some (t38, h30)) fun t5 h31 =>
    k2 (some (t39, h31)) fun t6 h32 =>
    k2 (vLoadN 3 t1 h32) fun t41 h33 =>
    k2 (vLoadN 3 t2 h33) fun t42 h34 =>
    k2 (X.call (.func (.func n_judge_Alike) #[] #[]) [t41, t42] h34) fun t43 h35 =>
    k2 (some (t43, h35)) fun t40 h36 =>
    k2 (vExtract 0 t40 h36) fun t44 h37 =>
    k2 (vExtract 1 t40 h37) fun t45 h38 =>
    k2 (some (t44, h38)) fun t7 h39 =>
    k2 (some (t45, h39)) fun t8 h40 =>
    k2 (vLoadN 3 t1 h40) fun t47 h41 =>
    k2 (vLoadN 3 t2 h41) fun t48 h42 =>
    k2 (X.call (.func (.func n_cabotageref22_Both) #[] #[]) [t47, t48] h42) fun t49 h43 =>
    k2 (X.call (.func (.func n_judge_Tells) #[] #[]) [t49, (.int .i64 0), (.int .i64 4)] h43) fun t50 h44 =>
    k2 (some (t50, h44)) fun t46 h45 =>
    k2 (vExtract 0 t46 h45) fun t51 h46 =>
    k2 (vExtract 1 t46 h46) fun t52 h47 =>
    k2 (some (newPtr h47 [(.int .i64 0), (.int .i64 0), (.slice none 0 0)])) fun t9 h48 =>
    k2 (vStore 3 t9 t51 h48) fun _ h49 =>
    k2 (some (t52, h49)) fun t10 h50 =>
    k2 ((fillL [(.int .i64 0), (.int .i64 0), (.int .i64 0)] [(0, 1, (.int .i64 0)), (1, 1, (.int .i64 1)), (2, 1, (.int .i64 0))]).map fun c => (Value.agg ⟨c⟩, h50)) fun t54 h51 =>
    k2 ((fillL [(.int .i64 0), (.int .i64 0), (.int .i64 0)] [(0, 1, (.int .i64 1)), (1, 1, (.int .i64 0)), (2, 1, (.int .i64 1))]).map fun c => (Value.agg ⟨c⟩, h51)) fun t55 h52 =>
    k2 (vSlice 2 (fillL (repeatL [(.int .i64 0), (.int .i64 0), (.int .i64 0)] 2) [(0 * 3, 3, t54), (1 * 3, 3, t55)]) h52) fun t56 h53 =>
    k2 (X.call (.func (.func n_cabotagelaw22_edges) #[] #[]) [t56] h53) fun t57 h54 =>
    k2 ((fillL [(.int .i64 0), (.int .i64 0), (.slice none 0 0)] [(0, 1, (.int .i64 2)), (1, 1, (.int .i64 2)), (2, 1, t57)]).map fun c => (Value.agg ⟨c⟩, h54)) fun t58 h55 =>
    k2 (X.call (.func (.func n_judge_Weak) #[] #[]) [t58] h55) fun t59 h56 =>
    k2 (some (t59, h56)) fun t53 h57 =>
    k2 (vExtract 0 t53 h57) fun t60 h58 =>
    k2 (vExtract 1 t53 h58) fun t61 h59 =>
    k2 (some (newPtr h59 [(.int .i64 0), (.int .i64 0), (.slice none 0 0)])) fun t11 h60 =>
    k2 (vStore 3 t11 t60 h60) fun _ h61 =>
    k2 (some (t61, h61)) fun t12 h62 =>
    k2 (some (t4, h62)) fun t62 h63 =>
    k2 (vBin .neq .other t62 (.int .i64 0) h63) fun t63 h64 =>
    k2 (some (t63, h64)) fun t64 h65 =>
    k2 (gd t64 false h65 (some (t6, h65))) fun t65 h66 =>
    k2 (gd t64 false h66 (vBin .neq .other t65 (.int .i64 0) h66)) fun t66 h67 =>
    k2 (vPick t64 (.bool true) t66 h67) fun t67 h68 =>
    k2 (some (t67, h68)) fun t68 h69 =>
    k2 (gd t68 false h69 (some (t8, h69))) fun t69 h70 =>
    k2 (gd t68 false h70 (vBin .neq .other t69 (.int .i64 0) h70)) fun t70 h71 =>
    k2 (vPick t68 (.bool true) t70 h71) fun t71 h72 =>
    k2 (some (t71, h72)) fun t72 h73 =>
    k2 (gd t72 false h73 (some (t10, h73))) fun t73 h74 =>
    k2 (gd t72 false h74 (vBin .neq .other t73 (.int .i64 0) h74)) fun t74 h75 =>
    k2 (vPick t72 (.bool true) t74 h75) fun t75 h76 =>
    k2 (some (t75, h76)) fun t76 h77 =>
    k2 (gd t76 false h77 (some (t12, h77))) fun t77 h78 =>
    k2 (gd t76 false h78 (vBin .neq .other t77 (.int .i64 0) h78)) fun t78 h79 =>
    k2 (vPick t76 (.bool true) t78 h79) fun t79 h80 =>
    br t79
      (k2 (some ((.bool false), h80)) fun t0 h81 =>
    some (.val (tupleOf [t0]) h81))
      (k2 ((fillL [(.int .i64 0), (.int .i64 0), (.slice none 0 0)] [(0, 1, (.int .i64 3))]).map fun c => (Value.agg ⟨c⟩, h80)) fun t80 h82 =>
    k2 (some (newPtr h82 [(.int .i64 0), (.int .i64 0), (.slice none 0 0)])) fun t13 h83 =>
    k2 (vStore 3 t13 t80 h83) fun _ h84 =>
    k2 (vLoadN 3 t13 h84) fun t81 h85 =>
    k2 (vSlice 1 (fillL (repeatL [(.int .i64 0), (.int .i64 0), (.slice none 0 0)] 1) [(0 * 3, 3, t81)]) h85) fun t82 h86 =>
    k2 ((fillL [(.int .i64 0), (.int .i64 0), (.slice none 0 0)] [(0, 1, (.int .i64 4)), (1, 1, (.int .i64 2)), (2, 1, t82)]).map fun c => (Value.agg ⟨c⟩, h86)) fun t83 h87 =>
    k2 (vLoadN 3 t13 h87) fun t84 h88 =>
    k2 (vSlice 1 (fillL (repeatL [(.int .i64 0), (.int .i64 0), (.slice none 0 0)] 1) [(0 * 3, 3, t84)]) h88) fun t85 h89 =>
    k2 ((fillL [(.int .i64 0), (.int .i64 0), (.slice none 0 0)] [(0, 1, (.int .i64 4)), (1, 1, (.int .i64 1)), (2, 1, t85)]).map fun c => (Value.agg ⟨c⟩, h89)) fun t86 h90 =>
    k2 (vSlice 2 (fillL (repeatL [(.int .i64 0), (.int .i64 0), (.slice none 0 0)] 2) [(0 * 3, 3, t83), (1 * 3, 3, t86)]) h90) fun t87 h91 =>
    k2 (some (t87, h91)) fun t14 h92 =>
    k2 (some (t14, h92)) fun t88 h93 =>
    k2 ((fillL [(.int .i64 0), (.int .i64 0), (.slice none 0 0)] [(0, 1, (.int .i64 3)), (2, 1, t88)]).map fun c => (Value.agg ⟨c⟩, h93)) fun t89 h94 =>
    k2 (vSlice 1 (fillL (repeatL [(.int .i64 0), (.int .i64 0), (.slice none 0 0)] 1) [(0 * 3, 3, t89)]) h94) fun t90 h95 =>
    k2 ((fillL [(.int .i64 0), (.int .i64 0), (.slice none 0 0)] [(0, 1, (.int .i64 4)), (1, 1, (.int .i64 1)), (2, 1, t90)]).map fun c => (Value.agg ⟨c⟩, h95)) fun t91 h96 =>
    k2 (some (newPtr h96 [(.int .i64 0), (.int .i64 0), (.slice none 0 0)])) fun t15 h97 =>
    k2 (vStore 3 t15 t91 h97) fun _ h98 =>
    k2 ((fillL [(.int .i64 0), (.int .i64 0), (.int .i64 0)] [(0, 1, (.int .i64 0)), (1, 1, (.int .i64 0)), (2, 1, (.int .i64 0))]).map fun c => (Value.agg ⟨c⟩, h98)) fun t92 h99 =>
    k2 ((fillL [(.int .i64 0), (.int .i64 0), (.int .i64 0)] [(0, 1, (.int .i64 0)), (1, 1, (.int .i64 1)), (2, 1, (.int .i64 0))]).map fun c => (Value.agg ⟨c⟩, h99)) fun t93 h100 =>
    k2 ((fillL [(.int .i64 0), (.int .i64 0), (.int .i64 0)] [(0, 1, (.int .i64 0)), (1, 1, (.int .i64 0)), (2, 1, (.int .i64 1))]).map fun c => (Value.agg ⟨c⟩, h100)) fun t94 h101 =>
    k2 ((fillL [(.int .i64 0), (.int .i64 0), (.int .i64 0)] [(0, 1, (.int .i64 0)), (1, 1, (.int .i64 1)), (2, 1, (.int .i64 1))]).map fun c => (Value.agg ⟨c⟩, h101)) fun t95 h102 =>
    k2 ((fillL [(.int .i64 0), (.int .i64 0), (.int .i64 0)] [(0, 1, (.int .i64 1)), (1, 1, (.int .i64 1)), (2, 1, (.int .i64 0))]).map fun c => (Value.agg ⟨c⟩, h102)) fun t96 h103 =>
    k2 ((fillL [(.int .i64 0), (.int .i64 0), (.int .i64 0)] [(0, 1, (.int .i64 1)), (1, 1, (.int .i64 0)), (2, 1, (.int .i64 1))]).map fun c => (Value.agg ⟨c⟩, h103)) fun t97 h104 =>
    k2 ((fillL [(.int .i64 0), (.int .i64 0), (.int .i64 0)] [(0, 1, (.int .i64 1)), (1, 1, (.int .i64 1)), (2, 1, (.int .i64 1))]).map fun c => (Value.agg ⟨c⟩, h104)) fun t98 h105 =>
    k2 (vSlice 7 (fillL (repeatL [(.int .i64 0), (.int .i64 0), (.int .i64 0)] 7) [(0 * 3, 3, t92), (1 * 3, 3, t93), (2 * 3, 3, t94), (3 * 3, 3, t95), (4 * 3, 3, t96), (5 * 3, 3, t97), (6 * 3, 3, t98)]) h105) fun t99 h106 =>
    k2 (X.call (.func (.func n_cabotagelaw22_edges) #[] #[]) [t99] h106) fun t100 h107 =>
    k2 (some (t100, h107)) fun t16 h108 =>
    k2 (some (t3, h108)) fun t101 h109 =>
    k2 (vSlice 4 (fillL (repeatL [(.int .i64 0)] 4) [(0 * 1, 1, (.int .i64 0)), (1 * 1, 1, (.int .i64 1)), (2 * 1, 1, (.int .i64 2)), (3 * 1, 1, (.int .i64 2))]) h109) fun t102 h110 =>
    k2 (X.call (.func (.func n_cabotageref03_SameInts) #[] #[]) [t101, t102] h110) fun t103 h111 =>
    k2 (some (t103, h111)) fun t104 h112 =>
    k2 (gd t104 true h112 (some (t5, h112))) fun t105 h113 =>
    k2 (gd t104 true h113 (vSlice 5 (fillL (repeatL [(.int .i64 0)] 5) [(0 * 1, 1, (.int .i64 0)), (1 * 1, 1, (.int .i64 1)), (2 * 1, 1, (.int .i64 2)), (3 * 1, 1, (.int .i64 3)), (4 * 1, 1, (.int .i64 3))]) h113)) fun t106 h114 =>
    k2 (gd t104 true h114 (X.call (.func (.func n_cabotageref03_SameInts) #[] #[]) [t105, t106] h114)) fun t107 h115 =>
    k2 (vPick t104 t107 (.bool false) h115) fun t108 h116 =>
    k2 (some (t108, h116)) fun t109 h117 =>
    k2 (gd t109 true h117 (some (t7, h117))) fun t110 h118 =>
    k2 (gd t109 true h118 (vUn .not t110 h118)) fun t111 h119 =>
    k2 (vPick t109 t111 (.bool false) h119) fun t112 h120 =>
    k2 (some (t112, h120)) fun t113 h121 =>
    k2 (gd t113 true h121 (vLoadN 3 t9 h121)) fun t114 h122 =>
    k2 (gd t113 true h122 (vLoadN 3 t15 h122)) fun t115 h123 =>
    k2 (gd t113 true h123 (X.call (.func (.func n_cabotageref22_SameFormula) #[] #[]) [t114, t115] h123)) fun t116 h124 =>
    k2 (vPick t113 t116 (.bool false) h124) fun t117 h125 =>
    k2 (some (t117, h125)) fun t118 h126 =>
    k2 (gd t118 true h126 (vLoadN 3 t11 h126)) fun t119 h127 =>
    k2 (gd t118 true h127 (some (t16, h127))) fun t120 h128 =>
    k2 (gd t118 true h128 ((fillL [(.int .i64 0), (.int .i64 0), (.slice none 0 0)] [(0, 1, (.int .i64 2)), (1, 1, (.int .i64 2)), (2, 1, t120)]).map fun c => (Value.agg ⟨c⟩, h128))) fun t121 h129 =>
    k2 (gd t118 true h129 (X.call (.func (.func n_cabotageref22_SameGraph) #[] #[]) [t119, t121] h129)) fun t122 h130 =>
    k2 (vPick t118 t122 (.bool false) h130) fun t123 h131 =>
    k2 (some (t123, h131)) fun t0 h132 =>
    some (.val (tupleOf [t0]) h132)) := by kernel_rfl
theorem s_judge_Tells (X : Rn) (t0 t1 t2 : Value) (h : H) : shFunc X 3 f_judge_Tells [t0, t1, t2] h =
    k2 (some (newPtr h (cellsL t0))) fun t3 h1 =>
    k2 (some (newPtr h1 [(.int .i64 0), (.int .i64 0), (.slice none 0 0)])) fun t6 h2 =>
    k2 (some ((.int .i64 0), h2)) fun t7 h3 =>
    k2 (vLoadN 3 t3 h3) fun t11 h4 =>
    k2 (some (t1, h4)) fun t12 h5 =>
    k2 (X.call (.func (.func n_judge_isState) #[] #[]) [t11, t12] h5) fun t13 h6 =>
    k2 (vUn .not t13 h6) fun t14 h7 =>
    k2 (some (t14, h7)) fun t15 h8 =>
    k2 (gd t15 false h8 (vLoadN 3 t3 h8)) fun t16 h9 =>
    k2 (gd t15 false h9 (some (t2, h9))) fun t17 h10 =>
    k2 (gd t15 false h10 (X.call (.func (.func n_judge_isState) #[] #[]) [t16, t17] h10)) fun t18 h11 =>
    k2 (gd t15 false h11 (vUn .not t18 h11)) fun t19 h12 =>
    k2 (vPick t15 (.bool true) t19 h12) fun t20 h13 =>
    br t20
      (k2 ((fillL [(.int .i64 0), (.int .i64 0), (.slice none 0 0)] []).map fun c => (Value.agg ⟨c⟩, h13)) fun t21 h14 =>
    k2 (vStore 3 t6 t21 h14) fun _ h15 =>
    k2 (some ((.int .i64 2), h15)) fun t7 h16 =>
    (vRes (some 3) t6 h16).bind fun r0 => some (.val (tupleOf [r0, t7]) h16))
      (k2 (rdF (fun b => vLoadN 3 t3 b) 0 h13 [(0, h13)]) fun t22 h17 =>
    k2 (X.call (.func (.func n_judge_apart) #[] #[]) [t22] h17) fun t23 h18 =>
    k2 (rdF (fun b => vLoadN 3 t3 b) 0 h18 [(1, h18), (0, h13)]) fun t24 h19 =>
    k2 (some (.map (some h19.next), h19.new (.map [] 0))) fun t25 h20 =>
    k2 ((fillL [(.map none), (.int .i64 0), (.int .i64 0), (.slice none 0 0), (.map none)] [(0, 1, t23), (1, 3, t24), (4, 1, t25)]).map fun c => (Value.agg ⟨c⟩, h20)) fun t26 h21 =>
    k2 (some (newPtr h21 [(.map none), (.int .i64 0), (.int .i64 0), (.slice none 0 0), (.map none)])) fun t8 h22 =>
    k2 (vStore 5 t8 t26 h22) fun _ h23 =>
    k2 (vField 0 t8 h23) fun t28 h24 =>
    k2 (vLoad1 t28 h24) fun t29 h25 =>
    k2 (some (t1, h25)) fun t30 h26 =>
    k2 (some (t2, h26)) fun t31 h27 =>
    k2 ((fillL [(.int .i64 0), (.int .i64 0)] [(0, 1, t30), (1, 1, t31)]).map fun c => (Value.agg ⟨c⟩, h27)) fun t32 h28 =>
    k2 (vLookup (.leaves [0, 1]) (.int .i64 0) true t29 t32 h28) fun t33 h29 =>
    k2 (some (t33, h29)) fun t27 h30 =>
    k2 (vExtract 0 t27 h30) fun t34 h31 =>
    k2 (vExtract 1 t27 h31) fun t35 h32 =>
    k2 (some (t34, h32)) fun t9 h33 =>
    k2 (some (t35, h33)) fun t10 h34 =>
    k2 (some (t10, h34)) fun t36 h35 =>
    k2 (vUn .not t36 h35) fun t37 h36 =>
    br t37
      (k2 ((fillL [(.int .i64 0), (.int .i64 0), (.slice none 0 0)] []).map fun c => (Value.agg ⟨c⟩, h36)) fun t38 h37 =>
    k2 (vStore 3 t6 t38 h37) fun _ h38 =>
    k2 (some ((.int .i64 5), h38)) fun t7 h39 =>
    (vRes (some 3) t6 h39).bind fun r0 => some (.val (tupleOf [r0, t7]) h39))
      (k2 (vLoadN 5 t8 h36) fun t39 h40 =>
    k2 (some (t1, h40)) fun t40 h41 =>
    k2 (some (t2, h41)) fun t41 h42 =>
    k2 (X.call (.func (.func n_judge_teller_size) #[] #[]) [t39, t40, t41] h42) fun t42 h43 =>
    k2 (vBin .gtr .other t42 (.int .i64 3000) h43) fun t43 h44 =>
    br t43
      (k2 ((fillL [(.int .i64 0), (.int .i64 0), (.slice none 0 0)] []).map fun c => (Value.agg ⟨c⟩, h44)) fun t44 h45 =>
    k2 (vStore 3 t6 t44 h45) fun _ h46 =>
    k2 (some ((.int .i64 3), h46)) fun t7 h47 =>
    (vRes (some 3) t6 h47).bind fun r0 => some (.val (tupleOf [r0, t7]) h47))
      (k2 (vLoadN 5 t8 h44) fun t45 h48 =>
    k2 (some (t1, h48)) fun t46 h49 =>
    k2 (some (t2, h49)) fun t47 h50 =>
    k2 (X.call (.func (.func n_judge_teller_formula) #[] #[]) [t45, t46, t47] h50) fun t48 h51 =>
    k2 (vStore 3 t6 t48 h51) fun _ h52 =>
    k2 (some ((.int .i64 0), h52)) fun t7 h53 =>
    (vRes (some 3) t6 h53).bind fun r0 => some (.val (tupleOf [r0, t7]) h53)))) := by kernel_rfl
theorem s_cabotageref22_SameFormula_0 (X : Rn) (h : H) : sh X c_cabotageref22_SameFormula_0 (K_cabotageref22_SameFormula_0 X) (setL [] []) h =
    k2 (some ((.bool true), h)) fun t4 h1 =>
    some (.val (tupleOf [t4]) h1) := by kernel_rfl
theorem s_cabotageref22_SameFormula_1 (X : Rn) (t2 t3 t5 : Value) (h : H) : sh X c_cabotageref22_SameFormula_1 (K_cabotageref22_SameFormula_1 X) (setL [p2, p3, p5] [t2, t3, t5]) h =
    k2 (some (t5, h)) fun t27 h1 =>
    k2 (vField 2 t2 h1) fun t28 h2 =>
    k2 (vLoad1 t28 h2) fun t29 h3 =>
    k2 (bltV h3 .len [t29]) fun t30 h4 =>
    k2 (vBin .lss .other t27 t30 h4) fun t31 h5 =>
    br t31
      (k2 (vField 2 t2 h5) fun t34 h6 =>
    k2 (rdF (fun b => vLoad1 t34 b) 0 h6 [(0, h5)]) fun t35 h7 =>
    k2 (some (t5, h7)) fun t36 h8 =>
    k2 (vIndex 3 t35 t36 h8) fun t37 h9 =>
    k2 (rdF (fun b => vLoadN 3 t37 b) 0 h9 [(0, h5)]) fun t38 h10 =>
    k2 (vField 2 t3 h10) fun t39 h11 =>
    k2 (rdF (fun b => vLoad1 t39 b) 0 h11 [(0, h5)]) fun t40 h12 =>
    k2 (some (t5, h12)) fun t41 h13 =>
    k2 (vIndex 3 t40 t41 h13) fun t42 h14 =>
    k2 (rdF (fun b => vLoadN 3 t42 b) 0 h14 [(0, h5)]) fun t43 h15 =>
    k2 (X.call (.func (.func n_cabotageref22_SameFormula) #[] #[]) [t38, t43] h15) fun t44 h16 =>
    k2 (vUn .not t44 h16) fun t45 h17 =>
    br t45
      (k2 (some ((.bool false), h17)) fun t4 h18 =>
    some (.val (tupleOf [t4]) h18))
      (k2 (some (t5, h17)) fun t32 h19 =>
    k2 (vBin .add .other t32 (.int .i64 1) h19) fun t33 h20 =>
    k2 (some (t33, h20)) fun t5_21 h22 =>
    lp X [p2, p3, p5] c_cabotageref22_SameFormula_1 (kBlk 0 (kSeq X c_cabotageref22_SameFormula_0 [] (K_cabotageref22_SameFormula_0 X))) [t2, t3, t5_21] h22))
      (sh X c_cabotageref22_SameFormula_0 (K_cabotageref22_SameFormula_0 X) (setL [] []) h5) := by kernel_rfl
theorem l_cabotageref22_SameFormula_1 (F : FuncId → Option CFunc) (t2 t3 t5 : Value) (h : H) {r : Out} : let X := rI F; sh X c_cabotageref22_SameFormula_1 (K_cabotageref22_SameFormula_1 X) (setL [p2, p3, p5] [t2, t3, t5]) h = some r → lp X [p2, p3, p5] c_cabotageref22_SameFormula_1 (kBlk 0 (kSeq X c_cabotageref22_SameFormula_0 [] (K_cabotageref22_SameFormula_0 X))) [t2, t3, t5] h = some r := fun hv => lp_step (by decide) hv
theorem s_cabotageref22_SameFormula (X : Rn) (t0 t1 : Value) (h : H) : shFunc X 2 f_cabotageref22_SameFormula [t0, t1] h =
    k2 (some (newPtr h (cellsL t0))) fun t2 h1 =>
    k2 (some (newPtr h1 (cellsL t1))) fun t3 h2 =>
    k2 (some ((.bool false), h2)) fun t4 h3 =>
    k2 (vField 0 t2 h3) fun t6 h4 =>
    k2 (vLoad1 t6 h4) fun t7 h5 =>
    k2 (vField 0 t3 h5) fun t8 h6 =>
    k2 (vLoad1 t8 h6) fun t9 h7 =>
    k2 (vBin .neq .other t7 t9 h7) fun t10 h8 =>
    k2 (some (t10, h8)) fun t11 h9 =>
    k2 (gd t11 false h9 (vField 1 t2 h9)) fun t12 h10 =>
    k2 (gd t11 false h10 (vLoad1 t12 h10)) fun t13 h11 =>
    k2 (gd t11 false h11 (vField 1 t3 h11)) fun t14 h12 =>
    k2 (gd t11 false h12 (vLoad1 t14 h12)) fun t15 h13 =>
    k2 (gd t11 false h13 (vBin .neq .other t13 t15 h13)) fun t16 h14 =>
    k2 (vPick t11 (.bool true) t16 h14) fun t17 h15 =>
    k2 (some (t17, h15)) fun t18 h16 =>
    k2 (gd t18 false h16 (vField 2 t2 h16)) fun t19 h17 =>
    k2 (gd t18 false h17 (vLoad1 t19 h17)) fun t20 h18 =>
    k2 (gd t18 false h18 (bltV h18 .len [t20])) fun t21 h19 =>
    k2 (gd t18 false h19 (vField 2 t3 h19)) fun t22 h20 =>
    k2 (gd t18 false h20 (vLoad1 t22 h20)) fun t23 h21 =>
    k2 (gd t18 false h21 (bltV h21 .len [t23])) fun t24 h22 =>
    k2 (gd t18 false h22 (vBin .neq .other t21 t24 h22)) fun t25 h23 =>
    k2 (vPick t18 (.bool true) t25 h23) fun t26 h24 =>
    br t26
      (k2 (some ((.bool false), h24)) fun t4 h25 =>
    some (.val (tupleOf [t4]) h25))
      (k2 (some ((.int .i64 0), h24)) fun t5 h26 =>
    lp X [p2, p3, p5] c_cabotageref22_SameFormula_1 (kBlk 0 (kSeq X c_cabotageref22_SameFormula_0 [] (K_cabotageref22_SameFormula_0 X))) [t2, t3, t5] h26) := by kernel_rfl
theorem s_judge_Alike (X : Rn) (t0 t1 : Value) (h : H) : shFunc X 2 f_judge_Alike [t0, t1] h =
    k2 (some (newPtr h (cellsL t0))) fun t2 h1 =>
    k2 (some (newPtr h1 (cellsL t1))) fun t3 h2 =>
    k2 (some ((.bool false), h2)) fun t4 h3 =>
    k2 (some ((.int .i64 0), h3)) fun t5 h4 =>
    k2 (vLoadN 3 t2 h4) fun t6 h5 =>
    k2 (vLoadN 3 t3 h5) fun t7 h6 =>
    k2 (X.call (.func (.func n_judge_both) #[] #[]) [t6, t7] h6) fun t8 h7 =>
    k2 (vUn .not t8 h7) fun t9 h8 =>
    br t9
      (k2 (some ((.bool false), h8)) fun t4 h9 =>
    k2 (some ((.int .i64 2), h9)) fun t5 h10 =>
    some (.val (tupleOf [t4, t5]) h10))
      (k2 (vLoadN 3 t2 h8) fun t10 h11 =>
    k2 (vLoadN 3 t3 h11) fun t11 h12 =>
    k2 (X.call (.func (.func n_judge_alike) #[] #[]) [t10, t11] h12) fun t12 h13 =>
    k2 (some (t12, h13)) fun t4 h14 =>
    k2 (some ((.int .i64 0), h14)) fun t5 h15 =>
    some (.val (tupleOf [t4, t5]) h15)) := by kernel_rfl
theorem s_judge_Holds (X : Rn) (t0 t1 t2 : Value) (h : H) : shFunc X 3 f_judge_Holds [t0, t1, t2] h =
    k2 (some (newPtr h (cellsL t0))) fun t3 h1 =>
    k2 (some (newPtr h1 (cellsL t1))) fun t4 h2 =>
    k2 (some ((.bool false), h2)) fun t6 h3 =>
    k2 (some ((.int .i64 0), h3)) fun t7 h4 =>
    k2 (some (newPtr h4 [(.int .i64 0)])) fun t8 h5 =>
    k2 (vStore 1 t8 (.int .i64 3000) h5) fun _ h6 =>
    k2 (vLoadN 3 t3 h6) fun t9 h7 =>
    k2 (some (t2, h7)) fun t10 h8 =>
    k2 (X.call (.func (.func n_judge_isState) #[] #[]) [t9, t10] h8) fun t11 h9 =>
    k2 (vUn .not t11 h9) fun t12 h10 =>
    k2 (some (t12, h10)) fun t13 h11 =>
    k2 (gd t13 false h11 (vLoadN 3 t3 h11)) fun t14 h12 =>
    k2 (gd t13 false h12 (vLoadN 3 t4 h12)) fun t15 h13 =>
    k2 (gd t13 false h13 (X.call (.func (.func n_judge_formed) #[] #[]) [t14, t15, t8] h13)) fun t16 h14 =>
    k2 (gd t13 false h14 (vUn .not t16 h14)) fun t17 h15 =>
    k2 (vPick t13 (.bool true) t17 h15) fun t18 h16 =>
    br t18
      (k2 (some ((.bool false), h16)) fun t6 h17 =>
    k2 (some ((.int .i64 2), h17)) fun t7 h18 =>
    some (.val (tupleOf [t6, t7]) h18))
      (k2 (vLoadN 3 t3 h16) fun t19 h19 =>
    k2 (vLoadN 3 t4 h19) fun t20 h20 =>
    k2 (X.call (.func (.func n_judge_holds) #[] #[]) [t19, t20] h20) fun t21 h21 =>
    k2 (some (t2, h21)) fun t22 h22 =>
    k2 (vIndex 1 t21 t22 h22) fun t23 h23 =>
    k2 (vLoad1 t23 h23) fun t24 h24 =>
    k2 (some (t24, h24)) fun t6 h25 =>
    k2 (some ((.int .i64 0), h25)) fun t7 h26 =>
    some (.val (tupleOf [t6, t7]) h26)) := by kernel_rfl
theorem s_cabotageref22_Holds (X : Rn) (t0 t1 t2 : Value) (h : H) : shFunc X 3 f_cabotageref22_Holds [t0, t1, t2] h =
    k2 (some (newPtr h (cellsL t0))) fun t3 h1 =>
    k2 (some (newPtr h1 (cellsL t1))) fun t4 h2 =>
    k2 (some ((.bool false), h2)) fun t6 h3 =>
    k2 (some ((.int .i64 0), h3)) fun t7 h4 =>
    k2 (some (newPtr h4 [(.int .i64 0)])) fun t8 h5 =>
    k2 (vStore 1 t8 (.int .i64 3000) h5) fun _ h6 =>
    k2 (vLoadN 3 t3 h6) fun t9 h7 =>
    k2 (X.call (.func (.func n_cabotageref22_Check) #[] #[]) [t9] h7) fun t10 h8 =>
    k2 (vBin .neq .other t10 (.int .i64 0) h8) fun t11 h9 =>
    k2 (some (t11, h9)) fun t12 h10 =>
    k2 (gd t12 false h10 (vLoadN 3 t3 h10)) fun t13 h11 =>
    k2 (gd t12 false h11 (vLoadN 3 t4 h11)) fun t14 h12 =>
    k2 (gd t12 false h12 (X.call (.func (.func n_cabotageref22_formula) #[] #[]) [t13, t14, t8] h12)) fun t15 h13 =>
    k2 (gd t12 false h13 (vUn .not t15 h13)) fun t16 h14 =>
    k2 (vPick t12 (.bool true) t16 h14) fun t17 h15 =>
    k2 (some (t17, h15)) fun t18 h16 =>
    k2 (gd t18 false h16 (some (t2, h16))) fun t19 h17 =>
    k2 (gd t18 false h17 (vBin .lss .other t19 (.int .i64 0) h17)) fun t20 h18 =>
    k2 (vPick t18 (.bool true) t20 h18) fun t21 h19 =>
    k2 (some (t21, h19)) fun t22 h20 =>
    k2 (gd t22 false h20 (some (t2, h20))) fun t23 h21 =>
    k2 (gd t22 false h21 (vField 0 t3 h21)) fun t24 h22 =>
    k2 (gd t22 false h22 (vLoad1 t24 h22)) fun t25 h23 =>
    k2 (gd t22 false h23 (vBin .geq .other t23 t25 h23)) fun t26 h24 =>
    k2 (vPick t22 (.bool true) t26 h24) fun t27 h25 =>
    br t27
      (k2 (some ((.bool false), h25)) fun t6 h26 =>
    k2 (some ((.int .i64 2), h26)) fun t7 h27 =>
    some (.val (tupleOf [t6, t7]) h27))
      (k2 (vLoadN 3 t3 h25) fun t28 h28 =>
    k2 (vLoadN 3 t4 h28) fun t29 h29 =>
    k2 (X.call (.func (.func n_cabotageref22_holdsIn) #[] #[]) [t28, t29] h29) fun t30 h30 =>
    k2 (some (t2, h30)) fun t31 h31 =>
    k2 (vIndex 1 t30 t31 h31) fun t32 h32 =>
    k2 (vLoad1 t32 h32) fun t33 h33 =>
    k2 (some (t33, h33)) fun t6 h34 =>
    k2 (some ((.int .i64 0), h34)) fun t7 h35 =>
    some (.val (tupleOf [t6, t7]) h35)) := by kernel_rfl
theorem s_judge_Classes (X : Rn) (t0 : Value) (h : H) : shFunc X 1 f_judge_Classes [t0] h =
    k2 (some (newPtr h (cellsL t0))) fun t1 h1 =>
    k2 (some ((.slice none 0 0), h1)) fun t2 h2 =>
    k2 (some ((.int .i64 0), h2)) fun t3 h3 =>
    k2 (vLoadN 3 t1 h3) fun t4 h4 =>
    k2 (X.call (.func (.func n_judge_Check) #[] #[]) [t4] h4) fun t5 h5 =>
    k2 (vBin .neq .other t5 (.int .i64 0) h5) fun t6 h6 =>
    br t6
      (k2 (some ((.slice none 0 0), h6)) fun t2 h7 =>
    k2 (some ((.int .i64 2), h7)) fun t3 h8 =>
    some (.val (tupleOf [t2, t3]) h8))
      (k2 (vLoadN 3 t1 h6) fun t7 h9 =>
    k2 (X.call (.func (.func n_judge_classes) #[] #[]) [t7] h9) fun t8 h10 =>
    k2 (some (t8, h10)) fun t2 h11 =>
    k2 (some ((.int .i64 0), h11)) fun t3 h12 =>
    some (.val (tupleOf [t2, t3]) h12)) := by kernel_rfl
theorem s_cabotageref03_SameInts_0 (X : Rn) (h : H) : sh X c_cabotageref03_SameInts_0 (K_cabotageref03_SameInts_0 X) (setL [] []) h =
    k2 (some ((.bool true), h)) fun t4 h1 =>
    some (.val (tupleOf [t4]) h1) := by kernel_rfl
theorem s_cabotageref03_SameInts_1 (X : Rn) (t0 t1 t5 : Value) (h : H) : sh X c_cabotageref03_SameInts_1 (K_cabotageref03_SameInts_1 X) (setL [p0, p1, p5] [t0, t1, t5]) h =
    k2 (some (t5, h)) fun t11 h1 =>
    k2 (some (t0, h1)) fun t12 h2 =>
    k2 (bltV h2 .len [t12]) fun t13 h3 =>
    k2 (vBin .lss .other t11 t13 h3) fun t14 h4 =>
    br t14
      (k2 (some (t0, h4)) fun t17 h5 =>
    k2 (some (t5, h5)) fun t18 h6 =>
    k2 (vIndex 1 t17 t18 h6) fun t19 h7 =>
    k2 (rdF (fun b => vLoad1 t19 b) 0 h7 [(0, h4)]) fun t20 h8 =>
    k2 (some (t1, h8)) fun t21 h9 =>
    k2 (some (t5, h9)) fun t22 h10 =>
    k2 (vIndex 1 t21 t22 h10) fun t23 h11 =>
    k2 (rdF (fun b => vLoad1 t23 b) 0 h11 [(0, h4)]) fun t24 h12 =>
    k2 (vBin .neq .other t20 t24 h12) fun t25 h13 =>
    br t25
      (k2 (some ((.bool false), h13)) fun t4 h14 =>
    some (.val (tupleOf [t4]) h14))
      (k2 (some (t5, h13)) fun t15 h15 =>
    k2 (vBin .add .other t15 (.int .i64 1) h15) fun t16 h16 =>
    k2 (some (t16, h16)) fun t5_17 h18 =>
    lp X [p0, p1, p5] c_cabotageref03_SameInts_1 (kBlk 0 (kSeq X c_cabotageref03_SameInts_0 [] (K_cabotageref03_SameInts_0 X))) [t0, t1, t5_17] h18))
      (sh X c_cabotageref03_SameInts_0 (K_cabotageref03_SameInts_0 X) (setL [] []) h4) := by kernel_rfl
theorem l_cabotageref03_SameInts_1 (F : FuncId → Option CFunc) (t0 t1 t5 : Value) (h : H) {r : Out} : let X := rI F; sh X c_cabotageref03_SameInts_1 (K_cabotageref03_SameInts_1 X) (setL [p0, p1, p5] [t0, t1, t5]) h = some r → lp X [p0, p1, p5] c_cabotageref03_SameInts_1 (kBlk 0 (kSeq X c_cabotageref03_SameInts_0 [] (K_cabotageref03_SameInts_0 X))) [t0, t1, t5] h = some r := fun hv => lp_step (by decide) hv
theorem s_cabotageref03_SameInts (X : Rn) (t0 t1 : Value) (h : H) : shFunc X 2 f_cabotageref03_SameInts [t0, t1] h =
    k2 (some ((.bool false), h)) fun t4 h1 =>
    k2 (some (t0, h1)) fun t6 h2 =>
    k2 (bltV h2 .len [t6]) fun t7 h3 =>
    k2 (some (t1, h3)) fun t8 h4 =>
    k2 (bltV h4 .len [t8]) fun t9 h5 =>
    k2 (vBin .neq .other t7 t9 h5) fun t10 h6 =>
    br t10
      (k2 (some ((.bool false), h6)) fun t4 h7 =>
    some (.val (tupleOf [t4]) h7))
      (k2 (some ((.int .i64 0), h6)) fun t5 h8 =>
    lp X [p0, p1, p5] c_cabotageref03_SameInts_1 (kBlk 0 (kSeq X c_cabotageref03_SameInts_0 [] (K_cabotageref03_SameInts_0 X))) [t0, t1, t5] h8) := by kernel_rfl
theorem s_judge_weak_2 (X : Rn) (t2 t3 : Value) (h : H) : sh X c_judge_weak_2 (K_judge_weak_2 X) (setL [p2, p3] [t2, t3]) h =
    k2 (vLoadN 3 t3 h) fun t122 h1 =>
    k2 (vStore 3 t2 t122 h1) fun _ h2 =>
    (vRes (some 3) t2 h2).bind fun r0 => some (.val (tupleOf [r0]) h2) := by kernel_rfl
theorem s_judge_weak_4 (X : Rn) (t1 t2 t3 t4 t39 t40 : Value) (h : H) : sh X c_judge_weak_4 (K_judge_weak_4 X) (setL [p1, p2, p3, p4, p39, p40] [t1, t2, t3, t4, t39, t40]) h =
    k2 (vBin .add .other t40 (.int .i64 1) h) fun t121 h1 =>
    k2 (some (t121, h1)) fun t40_2 h3 =>
    lp X [p1, p2, p3, p4, p39, p40] c_judge_weak_3 (kBlk 2 (kSeq X c_judge_weak_2 [p2, p3] (K_judge_weak_2 X))) [t1, t2, t3, t4, t39, t40_2] h3 := by kernel_rfl
theorem s_judge_weak_14 (X : Rn) (t1 t2 t3 t4 t6 t39 t40 t95 t96 t97 : Value) (h : H) : sh X c_judge_weak_14 (K_judge_weak_14 X) (setL [p1, p2, p3, p4, p6, p39, p40, p95, p96, p97] [t1, t2, t3, t4, t6, t39, t40, t95, t96, t97]) h =
    k2 (vBin .add .other t97 (.int .i64 1) h) fun t120 h1 =>
    k2 (some (t120, h1)) fun t97_2 h3 =>
    lp X [p1, p2, p3, p4, p6, p39, p40, p95, p96, p97] c_judge_weak_13 (kBlk 12 (K_judge_weak_7 X)) [t1, t2, t3, t4, t6, t39, t40, t95, t96, t97_2] h3 := by kernel_rfl
theorem s_judge_weak_16 (X : Rn) (t1 t2 t3 t4 t6 t14 t39 t40 t95 t96 t97 t102 t103 t104 : Value) (h : H) : sh X c_judge_weak_16 (K_judge_weak_16 X) (setL [p1, p2, p3, p4, p6, p14, p39, p40, p95, p96, p97, p102, p103, p104] [t1, t2, t3, t4, t6, t14, t39, t40, t95, t96, t97, t102, t103, t104]) h =
    k2 (vBin .add .other t104 (.int .i64 1) h) fun t119 h1 =>
    k2 (some (t119, h1)) fun t104_2 h3 =>
    lp X [p1, p2, p3, p4, p6, p14, p39, p40, p95, p96, p97, p102, p103, p104] c_judge_weak_15 (kBlk 14 (kBlk 13 (kSeq X c_judge_weak_14 [p1, p2, p3, p4, p6, p39, p40, p95, p96, p97] (K_judge_weak_14 X)))) [t1, t2, t3, t4, t6, t14, t39, t40, t95, t96, t97, t102, t103, t104_2] h3 := by kernel_rfl
theorem s_judge_weak_15 (X : Rn) (t1 t2 t3 t4 t6 t14 t39 t40 t95 t96 t97 t102 t103 t104 : Value) (h : H) : sh X c_judge_weak_15 (K_judge_weak_15 X) (setL [p1, p2, p3, p4, p6, p14, p39, p40, p95, p96, p97, p102, p103, p104] [t1, t2, t3, t4, t6, t14, t39, t40, t95, t96, t97, t102, t103, t104]) h =
    k2 (vBin .lss .other t104 t103 h) fun t105 h1 =>
    br t105
      (k2 (some (t104, h1)) fun t106 h2 =>
    k2 (vIndex 1 t102 t104 h2) fun t107 h3 =>
    k2 (vLoad1 t107 h3) fun t108 h4 =>
    k2 (some (t106, h4)) fun t16 h5 =>
    k2 (some (t108, h5)) fun t17 h6 =>
    k2 (some (t17, h6)) fun t109 h7 =>
    br t109
      (k2 (vField 2 t3 h7) fun t110 h8 =>
    k2 (vLoad1 t110 h8) fun t111 h9 =>
    k2 (some (t6, h9)) fun t112 h10 =>
    k2 (some (t16, h10)) fun t113 h11 =>
    k2 (some (t14, h11)) fun t114 h12 =>
    k2 ((fillL [(.int .i64 0), (.int .i64 0), (.int .i64 0)] [(0, 1, t112), (1, 1, t113), (2, 1, t114)]).map fun c => (Value.agg ⟨c⟩, h12)) fun t115 h13 =>
    k2 (vSlice 1 (fillL (repeatL [(.int .i64 0), (.int .i64 0), (.int .i64 0)] 1) [(0 * 3, 3, t115)]) h13) fun t116 h14 =>
    k2 (bltV h14 (.append 3 24) [t111, t116]) fun t117 h15 =>
    k2 (vField 2 t3 h15) fun t118 h16 =>
    k2 (vStore 1 t118 t117 h16) fun _ h17 =>
    sh X c_judge_weak_16 (K_judge_weak_16 X) (setL [p1, p2, p3, p4, p6, p14, p39, p40, p95, p96, p97, p102, p103, p104] [t1, t2, t3, t4, t6, t14, t39, t40, t95, t96, t97, t102, t103, t104]) h17)
      (sh X c_judge_weak_16 (K_judge_weak_16 X) (setL [p1, p2, p3, p4, p6, p14, p39, p40, p95, p96, p97, p102, p103, p104] [t1, t2, t3, t4, t6, t14, t39, t40, t95, t96, t97, t102, t103, t104]) h7))
      (sh X c_judge_weak_14 (K_judge_weak_14 X) (setL [p1, p2, p3, p4, p6, p39, p40, p95, p96, p97] [t1, t2, t3, t4, t6, t39, t40, t95, t96, t97]) h1) := by kernel_rfl
theorem l_judge_weak_15 (F : FuncId → Option CFunc) (t1 t2 t3 t4 t6 t14 t39 t40 t95 t96 t97 t102 t103 t104 : Value) (h : H) {r : Out} : let X := rI F; sh X c_judge_weak_15 (K_judge_weak_15 X) (setL [p1, p2, p3, p4, p6, p14, p39, p40, p95, p96, p97, p102, p103, p104] [t1, t2, t3, t4, t6, t14, t39, t40, t95, t96, t97, t102, t103, t104]) h = some r → lp X [p1, p2, p3, p4, p6, p14, p39, p40, p95, p96, p97, p102, p103, p104] c_judge_weak_15 (kBlk 14 (kBlk 13 (kSeq X c_judge_weak_14 [p1, p2, p3, p4, p6, p39, p40, p95, p96, p97] (K_judge_weak_14 X)))) [t1, t2, t3, t4, t6, t14, t39, t40, t95, t96, t97, t102, t103, t104] h = some r := fun hv => lp_step (by decide) hv
theorem s_judge_weak_13 (X : Rn) (t1 t2 t3 t4 t6 t39 t40 t95 t96 t97 : Value) (h : H) : sh X c_judge_weak_13 (K_judge_weak_13 X) (setL [p1, p2, p3, p4, p6, p39, p40, p95, p96, p97] [t1, t2, t3, t4, t6, t39, t40, t95, t96, t97]) h =
    k2 (vBin .lss .other t97 t96 h) fun t98 h1 =>
    br t98
      (k2 (some (t97, h1)) fun t99 h2 =>
    k2 (vIndex 1 t95 t97 h2) fun t100 h3 =>
    k2 (vLoad1 t100 h3) fun t101 h4 =>
    k2 (some (t99, h4)) fun t14 h5 =>
    k2 (some (t101, h5)) fun t15 h6 =>
    k2 (some (t15, h6)) fun t102 h7 =>
    k2 (bltV h7 .len [t102]) fun t103 h8 =>
    k2 (some ((.int .i64 0), h8)) fun t104 h9 =>
    lp X [p1, p2, p3, p4, p6, p14, p39, p40, p95, p96, p97, p102, p103, p104] c_judge_weak_15 (kBlk 14 (kBlk 13 (kSeq X c_judge_weak_14 [p1, p2, p3, p4, p6, p39, p40, p95, p96, p97] (K_judge_weak_14 X)))) [t1, t2, t3, t4, t6, t14, t39, t40, t95, t96, t97, t102, t103, t104] h9)
      (sh X c_judge_weak_4 (K_judge_weak_4 X) (setL [p1, p2, p3, p4, p39, p40] [t1, t2, t3, t4, t39, t40]) h1) := by kernel_rfl
theorem l_judge_weak_13 (F : FuncId → Option CFunc) (t1 t2 t3 t4 t6 t39 t40 t95 t96 t97 : Value) (h : H) {r : Out} : let X := rI F; sh X c_judge_weak_13 (K_judge_weak_13 X) (setL [p1, p2, p3, p4, p6, p39, p40, p95, p96, p97] [t1, t2, t3, t4, t6, t39, t40, t95, t96, t97]) h = some r → lp X [p1, p2, p3, p4, p6, p39, p40, p95, p96, p97] c_judge_weak_13 (kBlk 12 (K_judge_weak_7 X)) [t1, t2, t3, t4, t6, t39, t40, t95, t96, t97] h = some r := fun hv => lp_step (by decide) hv
theorem s_judge_weak_7 (X : Rn) (t1 t2 t3 t4 t6 t7 t39 t40 : Value) (h : H) : sh X c_judge_weak_7 (K_judge_weak_7 X) (setL [p1, p2, p3, p4, p6, p7, p39, p40] [t1, t2, t3, t4, t6, t7, t39, t40]) h =
    k2 (vLoad1 t7 h) fun t95 h1 =>
    k2 (bltV h1 .len [t95]) fun t96 h2 =>
    k2 (some ((.int .i64 0), h2)) fun t97 h3 =>
    lp X [p1, p2, p3, p4, p6, p39, p40, p95, p96, p97] c_judge_weak_13 (kBlk 12 (K_judge_weak_7 X)) [t1, t2, t3, t4, t6, t39, t40, t95, t96, t97] h3 := by kernel_rfl
theorem s_judge_weak_9 (X : Rn) (t1 t2 t3 t4 t6 t7 t39 t40 t61 t62 t63 : Value) (h : H) : sh X c_judge_weak_9 (K_judge_weak_9 X) (setL [p1, p2, p3, p4, p6, p7, p39, p40, p61, p62, p63] [t1, t2, t3, t4, t6, t7, t39, t40, t61, t62, t63]) h =
    k2 (vBin .add .other t63 (.int .i64 1) h) fun t94 h1 =>
    k2 (some (t94, h1)) fun t63_2 h3 =>
    lp X [p1, p2, p3, p4, p6, p7, p39, p40, p61, p62, p63] c_judge_weak_8 (kBlk 6 (kSeq X c_judge_weak_7 [p1, p2, p3, p4, p6, p7, p39, p40] (K_judge_weak_7 X))) [t1, t2, t3, t4, t6, t7, t39, t40, t61, t62, t63_2] h3 := by kernel_rfl
theorem s_judge_weak_10 (X : Rn) (l : Nat) (t4 t7 t75 : Value) (h : H) : shRound X r_judge_weak_10 l [t75] (setL [p4, p7] [t4, t7]) h =
    k2 (some (newPtr h [(.int .i64 0), (.int .i64 0), (.int .i64 0)])) fun t11 h1 =>
    k2 (vStore 3 t11 t75 h1) fun _ h2 =>
    busyK l h2 fun h => sh X c_judge_weak_11 (K_judge_weak_11 X l) (setL [p4, p7, p11, p75] [t4, t7, t11, t75]) h := by kernel_rfl
theorem s_judge_weak_12 (X : Rn) (l : Nat) (t7 t11 t80 t81 t82 : Value) (h : H) : sh X c_judge_weak_12 (K_judge_weak_12 X l) (setL [p7, p11, p80, p81, p82] [t7, t11, t80, t81, t82]) h =
    k2 (vBin .lss .other t82 t81 h) fun t83 h1 =>
    br t83
      (k2 (vIndex 1 t80 t82 h1) fun t84 h2 =>
    k2 (vLoad1 t84 h2) fun t85 h3 =>
    k2 (some (t85, h3)) fun t13 h4 =>
    k2 (vLoad1 t7 h4) fun t86 h5 =>
    k2 (vField 2 t11 h5) fun t87 h6 =>
    k2 (vLoad1 t87 h6) fun t88 h7 =>
    k2 (vIndex 1 t86 t88 h7) fun t89 h8 =>
    k2 (vLoad1 t89 h8) fun t90 h9 =>
    k2 (some (t13, h9)) fun t91 h10 =>
    k2 (vIndex 1 t90 t91 h10) fun t92 h11 =>
    k2 (vStore 1 t92 (.bool true) h11) fun _ h12 =>
    k2 (vBin .add .other t82 (.int .i64 1) h12) fun t93 h13 =>
    k2 (some (t93, h13)) fun t82_14 h15 =>
    lp X [p7, p11, p80, p81, p82] c_judge_weak_12 (kBlk 10 (kBlk 9 (K_judge_weak_11 X l))) [t7, t11, t80, t81, t82_14] h15)
      (fin l none h1) := by kernel_rfl
theorem l_judge_weak_12 (l : Nat) (F : FuncId → Option CFunc) (t7 t11 t80 t81 t82 : Value) (h : H) {r : Out} : let X := rI F; sh X c_judge_weak_12 (K_judge_weak_12 X l) (setL [p7, p11, p80, p81, p82] [t7, t11, t80, t81, t82]) h = some r → lp X [p7, p11, p80, p81, p82] c_judge_weak_12 (kBlk 10 (kBlk 9 (K_judge_weak_11 X l))) [t7, t11, t80, t81, t82] h = some r := fun hv => lp_step (by decide) hv
theorem s_judge_weak_11 (X : Rn) (l : Nat) (t4 t7 t11 t75 : Value) (h : H) : sh X c_judge_weak_11 (K_judge_weak_11 X l) (setL [p4, p7, p11, p75] [t4, t7, t11, t75]) h =
    k2 (vLoad1 t4 h) fun t76 h1 =>
    k2 (vField 1 t11 h1) fun t77 h2 =>
    k2 (vLoad1 t77 h2) fun t78 h3 =>
    k2 (vIndex 1 t76 t78 h3) fun t79 h4 =>
    k2 (vLoad1 t79 h4) fun t80 h5 =>
    k2 (bltV h5 .len [t80]) fun t81 h6 =>
    k2 (some ((.int .i64 0), h6)) fun t82 h7 =>
    lp X [p7, p11, p80, p81, p82] c_judge_weak_12 (kBlk 10 (kBlk 9 (K_judge_weak_11 X l))) [t7, t11, t80, t81, t82] h7 := by kernel_rfl
theorem s_judge_weak_8 (X : Rn) (t1 t2 t3 t4 t6 t7 t39 t40 t61 t62 t63 : Value) (h : H) : sh X c_judge_weak_8 (K_judge_weak_8 X) (setL [p1, p2, p3, p4, p6, p7, p39, p40, p61, p62, p63] [t1, t2, t3, t4, t6, t7, t39, t40, t61, t62, t63]) h =
    k2 (vBin .lss .other t63 t62 h) fun t64 h1 =>
    br t64
      (k2 (vIndex 1 t61 t63 h1) fun t65 h2 =>
    k2 (vLoad1 t65 h2) fun t66 h3 =>
    k2 (some (t66, h3)) fun t10 h4 =>
    k2 (vLoad1 t7 h4) fun t67 h5 =>
    k2 (vIndex 1 t67 (.int .i64 0) h5) fun t68 h6 =>
    k2 (vLoad1 t68 h6) fun t69 h7 =>
    k2 (some (t10, h7)) fun t70 h8 =>
    k2 (vIndex 1 t69 t70 h8) fun t71 h9 =>
    k2 (vStore 1 t71 (.bool true) h9) fun _ h10 =>
    k2 (vLoadN 3 t1 h10) fun t72 h11 =>
    k2 (some (t10, h11)) fun t73 h12 =>
    k2 (X.call (.func (.func n_judge_steps) #[] #[]) [t72, t73] h12) fun t74 h13 =>
    (isFn t74).bind fun fv => k2 (X.call fv [.func (.yield h13.next) #[] #[]] (h13.new (.loop .ready none (setL [p4, p7] [t4, t7]) r_judge_weak_10))) fun _ h14 =>
    rgP h13.next h14 (fun h15 => sh X c_judge_weak_9 (K_judge_weak_9 X) (setL [p1, p2, p3, p4, p6, p7, p39, p40, p61, p62, p63] [t1, t2, t3, t4, t6, t7, t39, t40, t61, t62, t63]) h15) (fun i h15 => bx i 8 (sh X c_judge_weak_9 (K_judge_weak_9 X) (setL [p1, p2, p3, p4, p6, p7, p39, p40, p61, p62, p63] [t1, t2, t3, t4, t6, t7, t39, t40, t61, t62, t63]) h15) (bx i 7 (sh X c_judge_weak_9 (K_judge_weak_9 X) (setL [p1, p2, p3, p4, p6, p7, p39, p40, p61, p62, p63] [t1, t2, t3, t4, t6, t7, t39, t40, t61, t62, t63]) h15) (bx i 6 (sh X c_judge_weak_7 (K_judge_weak_7 X) (setL [p1, p2, p3, p4, p6, p7, p39, p40] [t1, t2, t3, t4, t6, t7, t39, t40]) h15) (bx i 3 (sh X c_judge_weak_4 (K_judge_weak_4 X) (setL [p1, p2, p3, p4, p39, p40] [t1, t2, t3, t4, t39, t40]) h15) (bx i 2 (sh X c_judge_weak_2 (K_judge_weak_2 X) (setL [p2, p3] [t2, t3]) h15) (none)))))) (fun h15 => (vRes (some 3) t2 h15).bind fun r0 => some (.val (tupleOf [r0]) h15)))
      (sh X c_judge_weak_7 (K_judge_weak_7 X) (setL [p1, p2, p3, p4, p6, p7, p39, p40] [t1, t2, t3, t4, t6, t7, t39, t40]) h1) := by kernel_rfl
theorem l_judge_weak_8 (F : FuncId → Option CFunc) (t1 t2 t3 t4 t6 t7 t39 t40 t61 t62 t63 : Value) (h : H) {r : Out} : let X := rI F; sh X c_judge_weak_8 (K_judge_weak_8 X) (setL [p1, p2, p3, p4, p6, p7, p39, p40, p61, p62, p63] [t1, t2, t3, t4, t6, t7, t39, t40, t61, t62, t63]) h = some r → lp X [p1, p2, p3, p4, p6, p7, p39, p40, p61, p62, p63] c_judge_weak_8 (kBlk 6 (kSeq X c_judge_weak_7 [p1, p2, p3, p4, p6, p7, p39, p40] (K_judge_weak_7 X))) [t1, t2, t3, t4, t6, t7, t39, t40, t61, t62, t63] h = some r := fun hv => lp_step (by decide) hv
theorem s_judge_weak_5 (X : Rn) (t1 t2 t3 t4 t6 t7 t39 t40 : Value) (h : H) : sh X c_judge_weak_5 (K_judge_weak_5 X) (setL [p1, p2, p3, p4, p6, p7, p39, p40] [t1, t2, t3, t4, t6, t7, t39, t40]) h =
    k2 (vLoad1 t4 h) fun t58 h1 =>
    k2 (some (t6, h1)) fun t59 h2 =>
    k2 (vIndex 1 t58 t59 h2) fun t60 h3 =>
    k2 (vLoad1 t60 h3) fun t61 h4 =>
    k2 (bltV h4 .len [t61]) fun t62 h5 =>
    k2 (some ((.int .i64 0), h5)) fun t63 h6 =>
    lp X [p1, p2, p3, p4, p6, p7, p39, p40, p61, p62, p63] c_judge_weak_8 (kBlk 6 (kSeq X c_judge_weak_7 [p1, p2, p3, p4, p6, p7, p39, p40] (K_judge_weak_7 X))) [t1, t2, t3, t4, t6, t7, t39, t40, t61, t62, t63] h6 := by kernel_rfl
theorem s_judge_weak_6 (X : Rn) (t1 t2 t3 t4 t6 t7 t39 t40 t47 t48 : Value) (h : H) : sh X c_judge_weak_6 (K_judge_weak_6 X) (setL [p1, p2, p3, p4, p6, p7, p39, p40, p47, p48] [t1, t2, t3, t4, t6, t7, t39, t40, t47, t48]) h =
    k2 (vBin .lss .other t48 t47 h) fun t49 h1 =>
    br t49
      (k2 (some (t48, h1)) fun t50 h2 =>
    k2 (some (t50, h2)) fun t8 h3 =>
    k2 (rdF (fun b => vLoad1 t7 b) 0 h3 [(0, h3)]) fun t51 h4 =>
    k2 (some (t8, h4)) fun t52 h5 =>
    k2 (vField 0 t1 h5) fun t53 h6 =>
    k2 (rdF (fun b => vLoad1 t53 b) 0 h6 [(0, h3)]) fun t54 h7 =>
    k2 (makeSliceV 1 [(.bool false)] h7 t54 t54) fun t55 h8 =>
    k2 (vIndex 1 t51 t52 h8) fun t56 h9 =>
    k2 (vStore 1 t56 t55 h9) fun _ h10 =>
    k2 (vBin .add .other t48 (.int .i64 1) h10) fun t57 h11 =>
    k2 (some (t57, h11)) fun t48_12 h13 =>
    lp X [p1, p2, p3, p4, p6, p7, p39, p40, p47, p48] c_judge_weak_6 (kBlk 4 (kSeq X c_judge_weak_5 [p1, p2, p3, p4, p6, p7, p39, p40] (K_judge_weak_5 X))) [t1, t2, t3, t4, t6, t7, t39, t40, t47, t48_12] h13)
      (sh X c_judge_weak_5 (K_judge_weak_5 X) (setL [p1, p2, p3, p4, p6, p7, p39, p40] [t1, t2, t3, t4, t6, t7, t39, t40]) h1) := by kernel_rfl
theorem l_judge_weak_6 (F : FuncId → Option CFunc) (t1 t2 t3 t4 t6 t7 t39 t40 t47 t48 : Value) (h : H) {r : Out} : let X := rI F; sh X c_judge_weak_6 (K_judge_weak_6 X) (setL [p1, p2, p3, p4, p6, p7, p39, p40, p47, p48] [t1, t2, t3, t4, t6, t7, t39, t40, t47, t48]) h = some r → lp X [p1, p2, p3, p4, p6, p7, p39, p40, p47, p48] c_judge_weak_6 (kBlk 4 (kSeq X c_judge_weak_5 [p1, p2, p3, p4, p6, p7, p39, p40] (K_judge_weak_5 X))) [t1, t2, t3, t4, t6, t7, t39, t40, t47, t48] h = some r := fun hv => lp_step (by decide) hv
theorem s_judge_weak_3 (X : Rn) (t1 t2 t3 t4 t39 t40 : Value) (h : H) : sh X c_judge_weak_3 (K_judge_weak_3 X) (setL [p1, p2, p3, p4, p39, p40] [t1, t2, t3, t4, t39, t40]) h =
    k2 (vBin .lss .other t40 t39 h) fun t41 h1 =>
    br t41
      (k2 (some (t40, h1)) fun t42 h2 =>
    k2 (some (t42, h2)) fun t6 h3 =>
    k2 (vField 1 t1 h3) fun t43 h4 =>
    k2 (vLoad1 t43 h4) fun t44 h5 =>
    k2 (makeSliceV 24 [(.slice none 0 0)] h5 t44 t44) fun t45 h6 =>
    k2 (some (newPtr h6 [(.slice none 0 0)])) fun t7 h7 =>
    k2 (vStore 1 t7 t45 h7) fun _ h8 =>
    k2 (vLoad1 t7 h8) fun t46 h9 =>
    k2 (bltV h9 .len [t46]) fun t47 h10 =>
    k2 (some ((.int .i64 0), h10)) fun t48 h11 =>
    lp X [p1, p2, p3, p4, p6, p7, p39, p40, p47, p48] c_judge_weak_6 (kBlk 4 (kSeq X c_judge_weak_5 [p1, p2, p3, p4, p6, p7, p39, p40] (K_judge_weak_5 X))) [t1, t2, t3, t4, t6, t7, t39, t40, t47, t48] h11)
      (sh X c_judge_weak_2 (K_judge_weak_2 X) (setL [p2, p3] [t2, t3]) h1) := by kernel_rfl
theorem l_judge_weak_3 (F : FuncId → Option CFunc) (t1 t2 t3 t4 t39 t40 : Value) (h : H) {r : Out} : let X := rI F; sh X c_judge_weak_3 (K_judge_weak_3 X) (setL [p1, p2, p3, p4, p39, p40] [t1, t2, t3, t4, t39, t40]) h = some r → lp X [p1, p2, p3, p4, p39, p40] c_judge_weak_3 (kBlk 2 (kSeq X c_judge_weak_2 [p2, p3] (K_judge_weak_2 X))) [t1, t2, t3, t4, t39, t40] h = some r := fun hv => lp_step (by decide) hv
theorem s_judge_weak_0 (X : Rn) (t1 t2 t3 t4 : Value) (h : H) : sh X c_judge_weak_0 (K_judge_weak_0 X) (setL [p1, p2, p3, p4] [t1, t2, t3, t4]) h =
    k2 (vField 0 t1 h) fun t38 h1 =>
    k2 (vLoad1 t38 h1) fun t39 h2 =>
    k2 (some ((.int .i64 0), h2)) fun t40 h3 =>
    lp X [p1, p2, p3, p4, p39, p40] c_judge_weak_3 (kBlk 2 (kSeq X c_judge_weak_2 [p2, p3] (K_judge_weak_2 X))) [t1, t2, t3, t4, t39, t40] h3 := by kernel_rfl
theorem s_judge_weak_1 (X : Rn) (t1 t2 t3 t4 t27 t28 : Value) (h : H) : sh X c_judge_weak_1 (K_judge_weak_1 X) (setL [p1, p2, p3, p4, p27, p28] [t1, t2, t3, t4, t27, t28]) h =
    k2 (vBin .lss .other t28 t27 h) fun t29 h1 =>
    br t29
      (k2 (some (t28, h1)) fun t30 h2 =>
    k2 (some (t30, h2)) fun t5 h3 =>
    k2 (rdF (fun b => vLoadN 3 t1 b) 0 h3 [(0, h3)]) fun t33 h4 =>
    k2 (some (t5, h4)) fun t34 h5 =>
    k2 (X.call (.func (.func n_judge_silent) #[] #[]) [t33, t34] h5) fun t35 h6 =>
    k2 (rdF (fun b => vLoad1 t4 b) 0 h6 [(1, h6), (0, h3)]) fun t31 h7 =>
    k2 (some (t5, h7)) fun t32 h8 =>
    k2 (vIndex 1 t31 t32 h8) fun t36 h9 =>
    k2 (vStore 1 t36 t35 h9) fun _ h10 =>
    k2 (vBin .add .other t28 (.int .i64 1) h10) fun t37 h11 =>
    k2 (some (t37, h11)) fun t28_12 h13 =>
    lp X [p1, p2, p3, p4, p27, p28] c_judge_weak_1 (kBlk 0 (kSeq X c_judge_weak_0 [p1, p2, p3, p4] (K_judge_weak_0 X))) [t1, t2, t3, t4, t27, t28_12] h13)
      (sh X c_judge_weak_0 (K_judge_weak_0 X) (setL [p1, p2, p3, p4] [t1, t2, t3, t4]) h1) := by kernel_rfl
theorem l_judge_weak_1 (F : FuncId → Option CFunc) (t1 t2 t3 t4 t27 t28 : Value) (h : H) {r : Out} : let X := rI F; sh X c_judge_weak_1 (K_judge_weak_1 X) (setL [p1, p2, p3, p4, p27, p28] [t1, t2, t3, t4, t27, t28]) h = some r → lp X [p1, p2, p3, p4, p27, p28] c_judge_weak_1 (kBlk 0 (kSeq X c_judge_weak_0 [p1, p2, p3, p4] (K_judge_weak_0 X))) [t1, t2, t3, t4, t27, t28] h = some r := fun hv => lp_step (by decide) hv
theorem s_judge_weak (X : Rn) (t0 : Value) (h : H) : shFunc X 1 f_judge_weak [t0] h =
    k2 (some (newPtr h (cellsL t0))) fun t1 h1 =>
    k2 (some (newPtr h1 [(.int .i64 0), (.int .i64 0), (.slice none 0 0)])) fun t2 h2 =>
    k2 (vField 0 t1 h2) fun t18 h3 =>
    k2 (vLoad1 t18 h3) fun t19 h4 =>
    k2 (vField 1 t1 h4) fun t20 h5 =>
    k2 (vLoad1 t20 h5) fun t21 h6 =>
    k2 ((fillL [(.int .i64 0), (.int .i64 0), (.slice none 0 0)] [(0, 1, t19), (1, 1, t21)]).map fun c => (Value.agg ⟨c⟩, h6)) fun t22 h7 =>
    k2 (some (newPtr h7 [(.int .i64 0), (.int .i64 0), (.slice none 0 0)])) fun t3 h8 =>
    k2 (vStore 3 t3 t22 h8) fun _ h9 =>
    k2 (vField 0 t1 h9) fun t23 h10 =>
    k2 (vLoad1 t23 h10) fun t24 h11 =>
    k2 (makeSliceV 24 [(.slice none 0 0)] h11 t24 t24) fun t25 h12 =>
    k2 (some (newPtr h12 [(.slice none 0 0)])) fun t4 h13 =>
    k2 (vStore 1 t4 t25 h13) fun _ h14 =>
    k2 (vField 0 t1 h14) fun t26 h15 =>
    k2 (vLoad1 t26 h15) fun t27 h16 =>
    k2 (some ((.int .i64 0), h16)) fun t28 h17 =>
    lp X [p1, p2, p3, p4, p27, p28] c_judge_weak_1 (kBlk 0 (kSeq X c_judge_weak_0 [p1, p2, p3, p4] (K_judge_weak_0 X))) [t1, t2, t3, t4, t27, t28] h17 := by kernel_rfl
theorem s_judge_compare (X : Rn) (t0 t1 : Value) (h : H) : shFunc X 2 f_judge_compare [t0, t1] h =
    k2 (some (newPtr h (cellsL t0))) fun t2 h1 =>
    k2 (some (newPtr h1 (cellsL t1))) fun t3 h2 =>
    k2 (some ((.int .i64 0), h2)) fun t4 h3 =>
    k2 (vField 0 t2 h3) fun t5 h4 =>
    k2 (rdF (fun b => vLoad1 t5 b) 0 h4 [(0, h3)]) fun t6 h5 =>
    k2 (vField 0 t3 h5) fun t7 h6 =>
    k2 (rdF (fun b => vLoad1 t7 b) 0 h6 [(0, h3)]) fun t8 h7 =>
    k2 (X.call (.func (.func n_cmp_Compare_int_) #[] #[]) [t6, t8] h7) fun t9 h8 =>
    k2 (vField 2 t2 h8) fun t10 h9 =>
    k2 (rdF (fun b => vLoad1 t10 b) 0 h9 [(1, h8), (0, h3)]) fun t11 h10 =>
    k2 (vField 2 t3 h10) fun t12 h11 =>
    k2 (rdF (fun b => vLoad1 t12 b) 0 h11 [(1, h8), (0, h3)]) fun t13 h12 =>
    k2 (X.call (.func (.func n_cmp_Compare_int_) #[] #[]) [t11, t13] h12) fun t14 h13 =>
    k2 (vField 1 t2 h13) fun t15 h14 =>
    k2 (rdF (fun b => vLoad1 t15 b) 0 h14 [(2, h13), (1, h8), (0, h3)]) fun t16 h15 =>
    k2 (vField 1 t3 h15) fun t17 h16 =>
    k2 (rdF (fun b => vLoad1 t17 b) 0 h16 [(2, h13), (1, h8), (0, h3)]) fun t18 h17 =>
    k2 (X.call (.func (.func n_cmp_Compare_int_) #[] #[]) [t16, t18] h17) fun t19 h18 =>
    k2 (vSlice 3 (fillL (repeatL [(.int .i64 0)] 3) [(0 * 1, 1, t9), (1 * 1, 1, t14), (2 * 1, 1, t19)]) h18) fun t20 h19 =>
    k2 (X.call (.func (.func n_cmp_Or_int_) #[] #[]) [t20] h19) fun t21 h20 =>
    k2 (some (t21, h20)) fun t4 h21 =>
    some (.val (tupleOf [t4]) h21) := by kernel_rfl
theorem s_cabotageref22_less (X : Rn) (t0 t1 : Value) (h : H) : shFunc X 2 f_cabotageref22_less [t0, t1] h =
    k2 (some (newPtr h (cellsL t0))) fun t2 h1 =>
    k2 (some (newPtr h1 (cellsL t1))) fun t3 h2 =>
    k2 (some ((.bool false), h2)) fun t4 h3 =>
    k2 (vField 0 t2 h3) fun t5 h4 =>
    k2 (vLoad1 t5 h4) fun t6 h5 =>
    k2 (vField 0 t3 h5) fun t7 h6 =>
    k2 (vLoad1 t7 h6) fun t8 h7 =>
    k2 (vBin .neq .other t6 t8 h7) fun t9 h8 =>
    br t9
      (k2 (vField 0 t2 h8) fun t10 h9 =>
    k2 (vLoad1 t10 h9) fun t11 h10 =>
    k2 (vField 0 t3 h10) fun t12 h11 =>
    k2 (vLoad1 t12 h11) fun t13 h12 =>
    k2 (vBin .lss .other t11 t13 h12) fun t14 h13 =>
    k2 (some (t14, h13)) fun t4 h14 =>
    some (.val (tupleOf [t4]) h14))
      (k2 (vField 2 t2 h8) fun t15 h15 =>
    k2 (vLoad1 t15 h15) fun t16 h16 =>
    k2 (vField 2 t3 h16) fun t17 h17 =>
    k2 (vLoad1 t17 h17) fun t18 h18 =>
    k2 (vBin .neq .other t16 t18 h18) fun t19 h19 =>
    br t19
      (k2 (vField 2 t2 h19) fun t20 h20 =>
    k2 (vLoad1 t20 h20) fun t21 h21 =>
    k2 (vField 2 t3 h21) fun t22 h22 =>
    k2 (vLoad1 t22 h22) fun t23 h23 =>
    k2 (vBin .lss .other t21 t23 h23) fun t24 h24 =>
    k2 (some (t24, h24)) fun t4 h25 =>
    some (.val (tupleOf [t4]) h25))
      (k2 (vField 1 t2 h19) fun t25 h26 =>
    k2 (vLoad1 t25 h26) fun t26 h27 =>
    k2 (vField 1 t3 h27) fun t27 h28 =>
    k2 (vLoad1 t27 h28) fun t28 h29 =>
    k2 (vBin .lss .other t26 t28 h29) fun t29 h30 =>
    k2 (some (t29, h30)) fun t4 h31 =>
    some (.val (tupleOf [t4]) h31))) := by kernel_rfl
theorem s_cabotagelaw22_edges_0 (X : Rn) (t3 : Value) (h : H) : sh X c_cabotagelaw22_edges_0 (K_cabotagelaw22_edges_0 X) (setL [p3] [t3]) h =
    k2 (some (t3, h)) fun t30 h1 =>
    k2 (some (t30, h1)) fun t2 h2 =>
    some (.val (tupleOf [t2]) h2) := by kernel_rfl
theorem s_cabotagelaw22_edges_1 (X : Rn) (t0 t3 t4 : Value) (h : H) : sh X c_cabotagelaw22_edges_1 (K_cabotagelaw22_edges_1 X) (setL [p0, p3, p4] [t0, t3, t4]) h =
    k2 (some (t4, h)) fun t5 h1 =>
    k2 (some (t0, h1)) fun t6 h2 =>
    k2 (bltV h2 .len [t6]) fun t7 h3 =>
    k2 (vBin .lss .other t5 t7 h3) fun t8 h4 =>
    br t8
      (k2 (some (t3, h4)) fun t11 h5 =>
    k2 (some (t0, h5)) fun t12 h6 =>
    k2 (some (t4, h6)) fun t13 h7 =>
    k2 (vIndex 3 t12 t13 h7) fun t14 h8 =>
    k2 (vIndexA 3 1 t14 (.int .i64 0) h8) fun t15 h9 =>
    k2 (rdF (fun b => vLoad1 t15 b) 0 h9 [(0, h4)]) fun t16 h10 =>
    k2 (some (t0, h10)) fun t17 h11 =>
    k2 (some (t4, h11)) fun t18 h12 =>
    k2 (vIndex 3 t17 t18 h12) fun t19 h13 =>
    k2 (vIndexA 3 1 t19 (.int .i64 1) h13) fun t20 h14 =>
    k2 (rdF (fun b => vLoad1 t20 b) 0 h14 [(0, h4)]) fun t21 h15 =>
    k2 (some (t0, h15)) fun t22 h16 =>
    k2 (some (t4, h16)) fun t23 h17 =>
    k2 (vIndex 3 t22 t23 h17) fun t24 h18 =>
    k2 (vIndexA 3 1 t24 (.int .i64 2) h18) fun t25 h19 =>
    k2 (rdF (fun b => vLoad1 t25 b) 0 h19 [(0, h4)]) fun t26 h20 =>
    k2 ((fillL [(.int .i64 0), (.int .i64 0), (.int .i64 0)] [(0, 1, t16), (1, 1, t21), (2, 1, t26)]).map fun c => (Value.agg ⟨c⟩, h20)) fun t27 h21 =>
    k2 (vSlice 1 (fillL (repeatL [(.int .i64 0), (.int .i64 0), (.int .i64 0)] 1) [(0 * 3, 3, t27)]) h21) fun t28 h22 =>
    k2 (bltV h22 (.append 3 24) [t11, t28]) fun t29 h23 =>
    k2 (some (t29, h23)) fun t3_24 h25 =>
    k2 (some (t4, h25)) fun t9 h26 =>
    k2 (vBin .add .other t9 (.int .i64 1) h26) fun t10 h27 =>
    k2 (some (t10, h27)) fun t4_28 h29 =>
    lp X [p0, p3, p4] c_cabotagelaw22_edges_1 (kBlk 0 (kSeq X c_cabotagelaw22_edges_0 [p3] (K_cabotagelaw22_edges_0 X))) [t0, t3_24, t4_28] h29)
      (sh X c_cabotagelaw22_edges_0 (K_cabotagelaw22_edges_0 X) (setL [p3] [t3]) h4) := by kernel_rfl
theorem l_cabotagelaw22_edges_1 (F : FuncId → Option CFunc) (t0 t3 t4 : Value) (h : H) {r : Out} : let X := rI F; sh X c_cabotagelaw22_edges_1 (K_cabotagelaw22_edges_1 X) (setL [p0, p3, p4] [t0, t3, t4]) h = some r → lp X [p0, p3, p4] c_cabotagelaw22_edges_1 (kBlk 0 (kSeq X c_cabotagelaw22_edges_0 [p3] (K_cabotagelaw22_edges_0 X))) [t0, t3, t4] h = some r := fun hv => lp_step (by decide) hv
theorem s_cabotagelaw22_edges (X : Rn) (t0 : Value) (h : H) : shFunc X 1 f_cabotagelaw22_edges [t0] h =
    k2 (some ((.slice none 0 0), h)) fun t2 h1 =>
    k2 (some ((.slice none 0 0), h1)) fun t3 h2 =>
    k2 (some ((.int .i64 0), h2)) fun t4 h3 =>
    lp X [p0, p3, p4] c_cabotagelaw22_edges_1 (kBlk 0 (kSeq X c_cabotagelaw22_edges_0 [p3] (K_cabotagelaw22_edges_0 X))) [t0, t3, t4] h3 := by kernel_rfl
theorem s_cabotageref22_Both_0 (X : Rn) (t4 t5 : Value) (h : H) : sh X c_cabotageref22_Both_0 (K_cabotageref22_Both_0 X) (setL [p4, p5] [t4, t5]) h =
    k2 (vLoadN 3 t5 h) fun t50 h1 =>
    k2 (vStore 3 t4 t50 h1) fun _ h2 =>
    (vRes (some 3) t4 h2).bind fun r0 => some (.val (tupleOf [r0]) h2) := by kernel_rfl
theorem s_cabotageref22_Both_1 (X : Rn) (t2 t3 t4 t5 t6 : Value) (h : H) : sh X c_cabotageref22_Both_1 (K_cabotageref22_Both_1 X) (setL [p2, p3, p4, p5, p6] [t2, t3, t4, t5, t6]) h =
    k2 (some (t6, h)) fun t20 h1 =>
    k2 (vField 2 t3 h1) fun t21 h2 =>
    k2 (vLoad1 t21 h2) fun t22 h3 =>
    k2 (bltV h3 .len [t22]) fun t23 h4 =>
    k2 (vBin .lss .other t20 t23 h4) fun t24 h5 =>
    br t24
      (k2 (vField 2 t3 h5) fun t27 h6 =>
    k2 (vLoad1 t27 h6) fun t28 h7 =>
    k2 (some (t6, h7)) fun t29 h8 =>
    k2 (vIndex 3 t28 t29 h8) fun t30 h9 =>
    k2 (vLoadN 3 t30 h9) fun t31 h10 =>
    k2 (some (newPtr h10 [(.int .i64 0), (.int .i64 0), (.int .i64 0)])) fun t7 h11 =>
    k2 (vStore 3 t7 t31 h11) fun _ h12 =>
    k2 (vField 2 t5 h12) fun t32 h13 =>
    k2 (vLoad1 t32 h13) fun t33 h14 =>
    k2 (vField 0 t7 h14) fun t34 h15 =>
    k2 (vLoad1 t34 h15) fun t35 h16 =>
    k2 (vField 0 t2 h16) fun t36 h17 =>
    k2 (vLoad1 t36 h17) fun t37 h18 =>
    k2 (vBin .add .other t35 t37 h18) fun t38 h19 =>
    k2 (vField 1 t7 h19) fun t39 h20 =>
    k2 (vLoad1 t39 h20) fun t40 h21 =>
    k2 (vField 0 t2 h21) fun t41 h22 =>
    k2 (vLoad1 t41 h22) fun t42 h23 =>
    k2 (vBin .add .other t40 t42 h23) fun t43 h24 =>
    k2 (vField 2 t7 h24) fun t44 h25 =>
    k2 (vLoad1 t44 h25) fun t45 h26 =>
    k2 ((fillL [(.int .i64 0), (.int .i64 0), (.int .i64 0)] [(0, 1, t38), (1, 1, t43), (2, 1, t45)]).map fun c => (Value.agg ⟨c⟩, h26)) fun t46 h27 =>
    k2 (vSlice 1 (fillL (repeatL [(.int .i64 0), (.int .i64 0), (.int .i64 0)] 1) [(0 * 3, 3, t46)]) h27) fun t47 h28 =>
    k2 (bltV h28 (.append 3 24) [t33, t47]) fun t48 h29 =>
    k2 (vField 2 t5 h29) fun t49 h30 =>
    k2 (vStore 1 t49 t48 h30) fun _ h31 =>
    k2 (some (t6, h31)) fun t25 h32 =>
    k2 (vBin .add .other t25 (.int .i64 1) h32) fun t26 h33 =>
    k2 (some (t26, h33)) fun t6_34 h35 =>
    lp X [p2, p3, p4, p5, p6] c_cabotageref22_Both_1 (kBlk 0 (kSeq X c_cabotageref22_Both_0 [p4, p5] (K_cabotageref22_Both_0 X))) [t2, t3, t4, t5, t6_34] h35)
      (sh X c_cabotageref22_Both_0 (K_cabotageref22_Both_0 X) (setL [p4, p5] [t4, t5]) h5) := by kernel_rfl
theorem l_cabotageref22_Both_1 (F : FuncId → Option CFunc) (t2 t3 t4 t5 t6 : Value) (h : H) {r : Out} : let X := rI F; sh X c_cabotageref22_Both_1 (K_cabotageref22_Both_1 X) (setL [p2, p3, p4, p5, p6] [t2, t3, t4, t5, t6]) h = some r → lp X [p2, p3, p4, p5, p6] c_cabotageref22_Both_1 (kBlk 0 (kSeq X c_cabotageref22_Both_0 [p4, p5] (K_cabotageref22_Both_0 X))) [t2, t3, t4, t5, t6] h = some r := fun hv => lp_step (by decide) hv
theorem s_cabotageref22_Both (X : Rn) (t0 t1 : Value) (h : H) : shFunc X 2 f_cabotageref22_Both [t0, t1] h =
    k2 (some (newPtr h (cellsL t0))) fun t2 h1 =>
    k2 (some (newPtr h1 (cellsL t1))) fun t3 h2 =>
    k2 (some (newPtr h2 [(.int .i64 0), (.int .i64 0), (.slice none 0 0)])) fun t4 h3 =>
    k2 (vSlice 0 (fillL (repeatL [(.int .i64 0), (.int .i64 0), (.int .i64 0)] 0) []) h3) fun t15 h4 =>
    k2 (vField 2 t2 h4) fun t16 h5 =>
    k2 (rdF (fun b => vLoad1 t16 b) 0 h5 [(0, h3)]) fun t17 h6 =>
    k2 (bltV h6 (.append 3 24) [t15, t17]) fun t18 h7 =>
    k2 (vField 0 t2 h7) fun t8 h8 =>
    k2 (rdF (fun b => vLoad1 t8 b) 0 h8 [(1, h7), (0, h3)]) fun t9 h9 =>
    k2 (vField 0 t3 h9) fun t10 h10 =>
    k2 (rdF (fun b => vLoad1 t10 b) 0 h10 [(1, h7), (0, h3)]) fun t11 h11 =>
    k2 (vBin .add .other t9 t11 h11) fun t12 h12 =>
    k2 (vField 1 t2 h12) fun t13 h13 =>
    k2 (rdF (fun b => vLoad1 t13 b) 0 h13 [(1, h7), (0, h3)]) fun t14 h14 =>
    k2 ((fillL [(.int .i64 0), (.int .i64 0), (.slice none 0 0)] [(0, 1, t12), (1, 1, t14), (2, 1, t18)]).map fun c => (Value.agg ⟨c⟩, h14)) fun t19 h15 =>
    k2 (some (newPtr h15 [(.int .i64 0), (.int .i64 0), (.slice none 0 0)])) fun t5 h16 =>
    k2 (vStore 3 t5 t19 h16) fun _ h17 =>
    k2 (some ((.int .i64 0), h17)) fun t6 h18 =>
    lp X [p2, p3, p4, p5, p6] c_cabotageref22_Both_1 (kBlk 0 (kSeq X c_cabotageref22_Both_0 [p4, p5] (K_cabotageref22_Both_0 X))) [t2, t3, t4, t5, t6] h18 := by kernel_rfl
theorem s_judge_isState (X : Rn) (t0 t1 : Value) (h : H) : shFunc X 2 f_judge_isState [t0, t1] h =
    k2 (some (newPtr h (cellsL t0))) fun t2 h1 =>
    k2 (some ((.bool false), h1)) fun t4 h2 =>
    k2 (vLoadN 3 t2 h2) fun t5 h3 =>
    k2 (X.call (.func (.func n_judge_Check) #[] #[]) [t5] h3) fun t6 h4 =>
    k2 (vBin .eql .other t6 (.int .i64 0) h4) fun t7 h5 =>
    k2 (some (t7, h5)) fun t8 h6 =>
    k2 (gd t8 true h6 (some (t1, h6))) fun t9 h7 =>
    k2 (gd t8 true h7 (vBin .geq .other t9 (.int .i64 0) h7)) fun t10 h8 =>
    k2 (vPick t8 t10 (.bool false) h8) fun t11 h9 =>
    k2 (some (t11, h9)) fun t12 h10 =>
    k2 (gd t12 true h10 (some (t1, h10))) fun t13 h11 =>
    k2 (gd t12 true h11 (vField 0 t2 h11)) fun t14 h12 =>
    k2 (gd t12 true h12 (vLoad1 t14 h12)) fun t15 h13 =>
    k2 (gd t12 true h13 (vBin .lss .other t13 t15 h13)) fun t16 h14 =>
    k2 (vPick t12 t16 (.bool false) h14) fun t17 h15 =>
    k2 (some (t17, h15)) fun t4 h16 =>
    some (.val (tupleOf [t4]) h16) := by kernel_rfl
theorem s_judge_apart_1 (X : Rn) (t1 t3 t4 : Value) (h : H) : sh X c_judge_apart_1 (K_judge_apart_1 X) (setL [p1, p3, p4] [t1, t3, t4]) h =
    k2 (some (t4, h)) fun t15 h1 =>
    k2 (vBin .add .other t15 (.int .i64 1) h1) fun t16 h2 =>
    k2 (some (t16, h2)) fun t4_3 h4 =>
    lp X [p1, p3, p4] c_judge_apart_0 (kBlk 0 (fnK [.tmp p2])) [t1, t3, t4_3] h4 := by kernel_rfl
theorem s_judge_apart_8 (X : Rn) (t1 t3 t4 t70 t71 t72 : Value) (h : H) : sh X c_judge_apart_8 (K_judge_apart_8 X) (setL [p1, p3, p4, p70, p71, p72] [t1, t3, t4, t70, t71, t72]) h =
    k2 (vBin .lss .other t72 t71 h) fun t73 h1 =>
    br t73
      (k2 (vIndex 2 t70 t72 h1) fun t74 h2 =>
    k2 (vLoadN 2 t74 h2) fun t75 h3 =>
    k2 (some (newPtr h3 [(.int .i64 0), (.int .i64 0)])) fun t13 h4 =>
    k2 (vStore 2 t13 t75 h4) fun _ h5 =>
    k2 (some (t3, h5)) fun t76 h6 =>
    k2 (rdF (fun b => vLoadN 2 t13 b) 0 h6 [(0, h5)]) fun t77 h7 =>
    k2 (some (t4, h7)) fun t84 h8 =>
    k2 (mapUpd (.leaves [0, 1]) h8 t77 t84 t76) fun _ h9 =>
    k2 (some (t3, h9)) fun t78 h10 =>
    k2 (vIndexA 2 1 t13 (.int .i64 1) h10) fun t79 h11 =>
    k2 (rdF (fun b => vLoad1 t79 b) 0 h11 [(1, h9), (0, h5)]) fun t80 h12 =>
    k2 (vIndexA 2 1 t13 (.int .i64 0) h12) fun t81 h13 =>
    k2 (rdF (fun b => vLoad1 t81 b) 0 h13 [(1, h9), (0, h5)]) fun t82 h14 =>
    k2 ((fillL [(.int .i64 0), (.int .i64 0)] [(0, 1, t80), (1, 1, t82)]).map fun c => (Value.agg ⟨c⟩, h14)) fun t83 h15 =>
    k2 (some (t4, h15)) fun t85 h16 =>
    k2 (mapUpd (.leaves [0, 1]) h16 t83 t85 t78) fun _ h17 =>
    k2 (vBin .add .other t72 (.int .i64 1) h17) fun t86 h18 =>
    k2 (some (t86, h18)) fun t72_19 h20 =>
    lp X [p1, p3, p4, p70, p71, p72] c_judge_apart_8 (kBlk 6 (K_judge_apart_2 X)) [t1, t3, t4, t70, t71, t72_19] h20)
      (sh X c_judge_apart_1 (K_judge_apart_1 X) (setL [p1, p3, p4] [t1, t3, t4]) h1) := by kernel_rfl
theorem l_judge_apart_8 (F : FuncId → Option CFunc) (t1 t3 t4 t70 t71 t72 : Value) (h : H) {r : Out} : let X := rI F; sh X c_judge_apart_8 (K_judge_apart_8 X) (setL [p1, p3, p4, p70, p71, p72] [t1, t3, t4, t70, t71, t72]) h = some r → lp X [p1, p3, p4, p70, p71, p72] c_judge_apart_8 (kBlk 6 (K_judge_apart_2 X)) [t1, t3, t4, t70, t71, t72] h = some r := fun hv => lp_step (by decide) hv
theorem s_judge_apart_2 (X : Rn) (t1 t3 t4 t5 : Value) (h : H) : sh X c_judge_apart_2 (K_judge_apart_2 X) (setL [p1, p3, p4, p5] [t1, t3, t4, t5]) h =
    k2 (some (t5, h)) fun t66 h1 =>
    k2 (bltV h1 .len [t66]) fun t67 h2 =>
    k2 (vBin .eql .other t67 (.int .i64 0) h2) fun t68 h3 =>
    br t68
      (k2 (some (t3, h3)) fun t69 h4 =>
    k2 (some (t69, h4)) fun t2 h5 =>
    some (.val (tupleOf [t2]) h5))
      (k2 (some (t5, h3)) fun t70 h6 =>
    k2 (bltV h6 .len [t70]) fun t71 h7 =>
    k2 (some ((.int .i64 0), h7)) fun t72 h8 =>
    lp X [p1, p3, p4, p70, p71, p72] c_judge_apart_8 (kBlk 6 (K_judge_apart_2 X)) [t1, t3, t4, t70, t71, t72] h8) := by kernel_rfl
theorem s_judge_apart_4 (X : Rn) (t1 t3 t4 t5 t18 t19 : Value) (h : H) : sh X c_judge_apart_4 (K_judge_apart_4 X) (setL [p1, p3, p4, p5, p18, p19] [t1, t3, t4, t5, t18, t19]) h =
    k2 (vBin .add .other t19 (.int .i64 1) h) fun t65 h1 =>
    k2 (some (t65, h1)) fun t19_2 h3 =>
    lp X [p1, p3, p4, p5, p18, p19] c_judge_apart_3 (kBlk 2 (kSeq X c_judge_apart_2 [p1, p3, p4, p5] (K_judge_apart_2 X))) [t1, t3, t4, t5, t18, t19_2] h3 := by kernel_rfl
theorem s_judge_apart_6 (X : Rn) (t1 t3 t4 t5 t6 t18 t19 t22 t23 : Value) (h : H) : sh X c_judge_apart_6 (K_judge_apart_6 X) (setL [p1, p3, p4, p5, p6, p18, p19, p22, p23] [t1, t3, t4, t5, t6, t18, t19, t22, t23]) h =
    k2 (vBin .add .other t23 (.int .i64 1) h) fun t64 h1 =>
    k2 (some (t64, h1)) fun t23_2 h3 =>
    lp X [p1, p3, p4, p5, p6, p18, p19, p22, p23] c_judge_apart_5 (kBlk 4 (kBlk 3 (kSeq X c_judge_apart_4 [p1, p3, p4, p5, p18, p19] (K_judge_apart_4 X)))) [t1, t3, t4, t5, t6, t18, t19, t22, t23_2] h3 := by kernel_rfl
theorem s_judge_apart_7 (X : Rn) (t1 t3 t4 t5 t6 t7 t11 t18 t19 t22 t23 : Value) (h : H) : sh X c_judge_apart_7 (K_judge_apart_7 X) (setL [p1, p3, p4, p5, p6, p7, p11, p18, p19, p22, p23] [t1, t3, t4, t5, t6, t7, t11, t18, t19, t22, t23]) h =
    k2 (some (t11, h)) fun t57 h1 =>
    br t57
      (k2 (some (t5, h1)) fun t58 h2 =>
    k2 (some (t6, h2)) fun t59 h3 =>
    k2 (some (t7, h3)) fun t60 h4 =>
    k2 ((fillL [(.int .i64 0), (.int .i64 0)] [(0, 1, t59), (1, 1, t60)]).map fun c => (Value.agg ⟨c⟩, h4)) fun t61 h5 =>
    k2 (vSlice 1 (fillL (repeatL [(.int .i64 0), (.int .i64 0)] 1) [(0 * 2, 2, t61)]) h5) fun t62 h6 =>
    k2 (bltV h6 (.append 2 16) [t58, t62]) fun t63 h7 =>
    k2 (some (t63, h7)) fun t5_8 h9 =>
    sh X c_judge_apart_6 (K_judge_apart_6 X) (setL [p1, p3, p4, p5, p6, p18, p19, p22, p23] [t1, t3, t4, t5_8, t6, t18, t19, t22, t23]) h9)
      (sh X c_judge_apart_6 (K_judge_apart_6 X) (setL [p1, p3, p4, p5, p6, p18, p19, p22, p23] [t1, t3, t4, t5, t6, t18, t19, t22, t23]) h1) := by kernel_rfl
theorem s_judge_apart_5 (X : Rn) (t1 t3 t4 t5 t6 t18 t19 t22 t23 : Value) (h : H) : sh X c_judge_apart_5 (K_judge_apart_5 X) (setL [p1, p3, p4, p5, p6, p18, p19, p22, p23] [t1, t3, t4, t5, t6, t18, t19, t22, t23]) h =
    k2 (vBin .lss .other t23 t22 h) fun t24 h1 =>
    br t24
      (k2 (some (t23, h1)) fun t25 h2 =>
    k2 (some (t25, h2)) fun t7 h3 =>
    k2 (some (t3, h3)) fun t27 h4 =>
    k2 (some (t6, h4)) fun t28 h5 =>
    k2 (some (t7, h5)) fun t29 h6 =>
    k2 ((fillL [(.int .i64 0), (.int .i64 0)] [(0, 1, t28), (1, 1, t29)]).map fun c => (Value.agg ⟨c⟩, h6)) fun t30 h7 =>
    k2 (vLookup (.leaves [0, 1]) (.int .i64 0) true t27 t30 h7) fun t31 h8 =>
    k2 (some (t31, h8)) fun t26 h9 =>
    k2 (vExtract 0 t26 h9) fun t32 h10 =>
    k2 (vExtract 1 t26 h10) fun t33 h11 =>
    k2 (some (t32, h11)) fun t8 h12 =>
    k2 (some (t33, h12)) fun t9 h13 =>
    k2 (some (t9, h13)) fun t34 h14 =>
    br t34
      (sh X c_judge_apart_6 (K_judge_apart_6 X) (setL [p1, p3, p4, p5, p6, p18, p19, p22, p23] [t1, t3, t4, t5, t6, t18, t19, t22, t23]) h14)
      (k2 (some (t3, h14)) fun t36 h15 =>
    k2 (vLoadN 3 t1 h15) fun t37 h16 =>
    k2 (some (t6, h16)) fun t38 h17 =>
    k2 (some (t7, h17)) fun t39 h18 =>
    k2 (some (t4, h18)) fun t40 h19 =>
    k2 (vBin .sub .other t40 (.int .i64 1) h19) fun t41 h20 =>
    k2 (X.call (.func (.func n_judge_rounds_first) #[] #[]) [t36, t37, t38, t39, t41] h20) fun t42 h21 =>
    k2 (some (t42, h21)) fun t35 h22 =>
    k2 (vExtract 0 t35 h22) fun t43 h23 =>
    k2 (vExtract 1 t35 h23) fun t44 h24 =>
    k2 (some (newPtr h24 [(.int .i64 0), (.int .i64 0), (.int .i64 0)])) fun t10 h25 =>
    k2 (vStore 3 t10 t43 h25) fun _ h26 =>
    k2 (some (t44, h26)) fun t11 h27 =>
    k2 (some (t11, h27)) fun t45 h28 =>
    k2 (vUn .not t45 h28) fun t46 h29 =>
    br t46
      (k2 (some (t3, h29)) fun t48 h30 =>
    k2 (vLoadN 3 t1 h30) fun t49 h31 =>
    k2 (some (t7, h31)) fun t50 h32 =>
    k2 (some (t6, h32)) fun t51 h33 =>
    k2 (some (t4, h33)) fun t52 h34 =>
    k2 (vBin .sub .other t52 (.int .i64 1) h34) fun t53 h35 =>
    k2 (X.call (.func (.func n_judge_rounds_first) #[] #[]) [t48, t49, t50, t51, t53] h35) fun t54 h36 =>
    k2 (some (t54, h36)) fun t47 h37 =>
    k2 (vExtract 0 t47 h37) fun t55 h38 =>
    k2 (vExtract 1 t47 h38) fun t56 h39 =>
    k2 (some (t56, h39)) fun t11_40 h41 =>
    sh X c_judge_apart_7 (K_judge_apart_7 X) (setL [p1, p3, p4, p5, p6, p7, p11, p18, p19, p22, p23] [t1, t3, t4, t5, t6, t7, t11_40, t18, t19, t22, t23]) h41)
      (sh X c_judge_apart_7 (K_judge_apart_7 X) (setL [p1, p3, p4, p5, p6, p7, p11, p18, p19, p22, p23] [t1, t3, t4, t5, t6, t7, t11, t18, t19, t22, t23]) h29)))
      (sh X c_judge_apart_4 (K_judge_apart_4 X) (setL [p1, p3, p4, p5, p18, p19] [t1, t3, t4, t5, t18, t19]) h1) := by kernel_rfl
theorem l_judge_apart_5 (F : FuncId → Option CFunc) (t1 t3 t4 t5 t6 t18 t19 t22 t23 : Value) (h : H) {r : Out} : let X := rI F; sh X c_judge_apart_5 (K_judge_apart_5 X) (setL [p1, p3, p4, p5, p6, p18, p19, p22, p23] [t1, t3, t4, t5, t6, t18, t19, t22, t23]) h = some r → lp X [p1, p3, p4, p5, p6, p18, p19, p22, p23] c_judge_apart_5 (kBlk 4 (kBlk 3 (kSeq X c_judge_apart_4 [p1, p3, p4, p5, p18, p19] (K_judge_apart_4 X)))) [t1, t3, t4, t5, t6, t18, t19, t22, t23] h = some r := fun hv => lp_step (by decide) hv
theorem s_judge_apart_3 (X : Rn) (t1 t3 t4 t5 t18 t19 : Value) (h : H) : sh X c_judge_apart_3 (K_judge_apart_3 X) (setL [p1, p3, p4, p5, p18, p19] [t1, t3, t4, t5, t18, t19]) h =
    k2 (vBin .lss .other t19 t18 h) fun t20 h1 =>
    br t20
      (k2 (some (t19, h1)) fun t21 h2 =>
    k2 (some (t21, h2)) fun t6 h3 =>
    k2 (some (t6, h3)) fun t22 h4 =>
    k2 (some ((.int .i64 0), h4)) fun t23 h5 =>
    lp X [p1, p3, p4, p5, p6, p18, p19, p22, p23] c_judge_apart_5 (kBlk 4 (kBlk 3 (kSeq X c_judge_apart_4 [p1, p3, p4, p5, p18, p19] (K_judge_apart_4 X)))) [t1, t3, t4, t5, t6, t18, t19, t22, t23] h5)
      (sh X c_judge_apart_2 (K_judge_apart_2 X) (setL [p1, p3, p4, p5] [t1, t3, t4, t5]) h1) := by kernel_rfl
theorem l_judge_apart_3 (F : FuncId → Option CFunc) (t1 t3 t4 t5 t18 t19 : Value) (h : H) {r : Out} : let X := rI F; sh X c_judge_apart_3 (K_judge_apart_3 X) (setL [p1, p3, p4, p5, p18, p19] [t1, t3, t4, t5, t18, t19]) h = some r → lp X [p1, p3, p4, p5, p18, p19] c_judge_apart_3 (kBlk 2 (kSeq X c_judge_apart_2 [p1, p3, p4, p5] (K_judge_apart_2 X))) [t1, t3, t4, t5, t18, t19] h = some r := fun hv => lp_step (by decide) hv
theorem s_judge_apart_0 (X : Rn) (t1 t3 t4 : Value) (h : H) : sh X c_judge_apart_0 (K_judge_apart_0 X) (setL [p1, p3, p4] [t1, t3, t4]) h =
    k2 (some ((.slice none 0 0), h)) fun t5 h1 =>
    k2 (vField 0 t1 h1) fun t17 h2 =>
    k2 (vLoad1 t17 h2) fun t18 h3 =>
    k2 (some ((.int .i64 0), h3)) fun t19 h4 =>
    lp X [p1, p3, p4, p5, p18, p19] c_judge_apart_3 (kBlk 2 (kSeq X c_judge_apart_2 [p1, p3, p4, p5] (K_judge_apart_2 X))) [t1, t3, t4, t5, t18, t19] h4 := by kernel_rfl
theorem l_judge_apart_0 (F : FuncId → Option CFunc) (t1 t3 t4 : Value) (h : H) {r : Out} : let X := rI F; sh X c_judge_apart_0 (K_judge_apart_0 X) (setL [p1, p3, p4] [t1, t3, t4]) h = some r → lp X [p1, p3, p4] c_judge_apart_0 (kBlk 0 (fnK [.tmp p2])) [t1, t3, t4] h = some r := fun hv => lp_step (by decide) hv
theorem s_judge_apart (X : Rn) (t0 : Value) (h : H) : shFunc X 1 f_judge_apart [t0] h =
    k2 (some (newPtr h (cellsL t0))) fun t1 h1 =>
    k2 (some ((.map none), h1)) fun t2 h2 =>
    k2 (some (.map (some h2.next), h2.new (.map [] 0))) fun t14 h3 =>
    k2 (some (t14, h3)) fun t3 h4 =>
    k2 (some ((.int .i64 1), h4)) fun t4 h5 =>
    lp X [p1, p3, p4] c_judge_apart_0 (kBlk 0 (fnK [.tmp p2])) [t1, t3, t4] h5 := by kernel_rfl
theorem s_judge_teller_size_0 (X : Rn) (t3 t7 t10 : Value) (h : H) : sh X c_judge_teller_size_0 (K_judge_teller_size_0 X) (setL [p3, p7, p10] [t3, t7, t10]) h =
    k2 (vField 4 t3 h) fun t63 h1 =>
    k2 (vLoad1 t63 h1) fun t64 h2 =>
    k2 (vLoadN 2 t7 h2) fun t65 h3 =>
    k2 (vLoad1 t10 h3) fun t66 h4 =>
    k2 (mapUpd (.leaves [0, 1]) h4 t65 t66 t64) fun _ h5 =>
    k2 (vLoad1 t10 h5) fun t67 h6 =>
    k2 (some (t67, h6)) fun t6 h7 =>
    some (.val (tupleOf [t6]) h7) := by kernel_rfl
theorem s_judge_teller_size_1 (X : Rn) (l : Nat) (t3 t10 t11 t48 : Value) (h : H) : shRound X r_judge_teller_size_1 l [t48] (setL [p3, p10, p11] [t3, t10, t11]) h =
    k2 (some (t48, h)) fun t13 h1 =>
    busyK l h1 fun h => sh X c_judge_teller_size_2 (K_judge_teller_size_2 X l) (setL [p3, p10, p11, p13, p48] [t3, t10, t11, t13, t48]) h := by kernel_rfl
theorem s_judge_teller_size_2 (X : Rn) (l : Nat) (t3 t10 t11 t13 t48 : Value) (h : H) : sh X c_judge_teller_size_2 (K_judge_teller_size_2 X l) (setL [p3, p10, p11, p13, p48] [t3, t10, t11, t13, t48]) h =
    k2 (rdF (fun b => vLoadN 5 t3 b) 0 h [(0, h)]) fun t50 h1 =>
    k2 (vField 1 t11 h1) fun t51 h2 =>
    k2 (rdF (fun b => vLoad1 t51 b) 0 h2 [(0, h)]) fun t52 h3 =>
    k2 (some (t13, h3)) fun t53 h4 =>
    k2 (X.call (.func (.func n_judge_teller_size) #[] #[]) [t50, t52, t53] h4) fun t54 h5 =>
    k2 (rdF (fun b => vLoad1 t10 b) 0 h5 [(1, h5), (0, h)]) fun t49 h6 =>
    k2 (vBin .add .other t49 t54 h6) fun t55 h7 =>
    k2 (bltV h7 .min [t55, (.int .i64 3001)]) fun t56 h8 =>
    k2 (vStore 1 t10 t56 h8) fun _ h9 =>
    fin l none h9 := by kernel_rfl
theorem s_judge_teller_size (X : Rn) (t0 t1 t2 : Value) (h : H) : shFunc X 3 f_judge_teller_size [t0, t1, t2] h =
    k2 (some (newPtr h (cellsL t0))) fun t3 h1 =>
    k2 (some ((.int .i64 0), h1)) fun t6 h2 =>
    k2 (some (t1, h2)) fun t14 h3 =>
    k2 (some (t2, h3)) fun t15 h4 =>
    k2 ((fillL [(.int .i64 0), (.int .i64 0)] [(0, 1, t14), (1, 1, t15)]).map fun c => (Value.agg ⟨c⟩, h4)) fun t16 h5 =>
    k2 (some (newPtr h5 [(.int .i64 0), (.int .i64 0)])) fun t7 h6 =>
    k2 (vStore 2 t7 t16 h6) fun _ h7 =>
    k2 (vField 4 t3 h7) fun t18 h8 =>
    k2 (vLoad1 t18 h8) fun t19 h9 =>
    k2 (vLoadN 2 t7 h9) fun t20 h10 =>
    k2 (vLookup (.leaves [0, 1]) (.int .i64 0) true t19 t20 h10) fun t21 h11 =>
    k2 (some (t21, h11)) fun t17 h12 =>
    k2 (vExtract 0 t17 h12) fun t22 h13 =>
    k2 (vExtract 1 t17 h13) fun t23 h14 =>
    k2 (some (t22, h14)) fun t8 h15 =>
    k2 (some (t23, h15)) fun t9 h16 =>
    k2 (some (t9, h16)) fun t24 h17 =>
    br t24
      (k2 (some (t8, h17)) fun t25 h18 =>
    k2 (some (t25, h18)) fun t6_19 h20 =>
    some (.val (tupleOf [t6_19]) h20))
      (k2 (some (newPtr h17 [(.int .i64 0)])) fun t10 h21 =>
    k2 (vStore 1 t10 (.int .i64 1) h21) fun _ h22 =>
    k2 (vField 0 t3 h22) fun t27 h23 =>
    k2 (rdF (fun b => vLoad1 t27 b) 0 h23 [(0, h22)]) fun t28 h24 =>
    k2 (vField 1 t3 h24) fun t29 h25 =>
    k2 (rdF (fun b => vLoadN 3 t29 b) 0 h25 [(0, h22)]) fun t30 h26 =>
    k2 (some (t1, h26)) fun t31 h27 =>
    k2 (some (t2, h27)) fun t32 h28 =>
    k2 (vField 0 t3 h28) fun t33 h29 =>
    k2 (rdF (fun b => vLoad1 t33 b) 0 h29 [(0, h22)]) fun t34 h30 =>
    k2 (rdF (fun b => vLoadN 2 t7 b) 0 h30 [(0, h22)]) fun t35 h31 =>
    k2 (rdF (fun b => vLookup (.leaves [0, 1]) (.int .i64 0) false t34 t35 b) 0 h31 [(0, h22)]) fun t36 h32 =>
    k2 (vBin .sub .other t36 (.int .i64 1) h32) fun t37 h33 =>
    k2 (X.call (.func (.func n_judge_rounds_first) #[] #[]) [t28, t30, t31, t32, t37] h33) fun t38 h34 =>
    k2 (some (t38, h34)) fun t26 h35 =>
    k2 (vExtract 0 t26 h35) fun t39 h36 =>
    k2 (some (newPtr h36 [(.int .i64 0), (.int .i64 0), (.int .i64 0)])) fun t11 h37 =>
    k2 (vStore 3 t11 t39 h37) fun _ h38 =>
    k2 (vExtract 1 t26 h38) fun t40 h39 =>
    k2 (some (t40, h39)) fun t12 h40 =>
    k2 (some (t12, h40)) fun t41 h41 =>
    br t41
      (k2 (vStore 1 t10 (.int .i64 2) h41) fun _ h42 =>
    k2 (vField 1 t3 h42) fun t42 h43 =>
    k2 (vLoadN 3 t42 h43) fun t43 h44 =>
    k2 (some (t2, h44)) fun t44 h45 =>
    k2 (vField 2 t11 h45) fun t45 h46 =>
    k2 (vLoad1 t45 h46) fun t46 h47 =>
    k2 (X.call (.func (.func n_judge_leads) #[] #[]) [t43, t44, t46] h47) fun t47 h48 =>
    (isFn t47).bind fun fv => k2 (X.call fv [.func (.yield h48.next) #[] #[]] (h48.new (.loop .ready none (setL [p3, p10, p11] [t3, t10, t11]) r_judge_teller_size_1))) fun _ h49 =>
    rgP h48.next h49 (fun h50 => sh X c_judge_teller_size_0 (K_judge_teller_size_0 X) (setL [p3, p7, p10] [t3, t7, t10]) h50) (fun i h50 => bx i 0 (sh X c_judge_teller_size_0 (K_judge_teller_size_0 X) (setL [p3, p7, p10] [t3, t7, t10]) h50) (none)) (fun h50 => some (.val (tupleOf [t6]) h50)))
      (k2 (vLoadN 5 t3 h41) fun t57 h51 =>
    k2 (some (t2, h51)) fun t58 h52 =>
    k2 (some (t1, h52)) fun t59 h53 =>
    k2 (X.call (.func (.func n_judge_teller_size) #[] #[]) [t57, t58, t59] h53) fun t60 h54 =>
    k2 (vBin .add .other (.int .i64 1) t60 h54) fun t61 h55 =>
    k2 (bltV h55 .min [t61, (.int .i64 3001)]) fun t62 h56 =>
    k2 (vStore 1 t10 t62 h56) fun _ h57 =>
    sh X c_judge_teller_size_0 (K_judge_teller_size_0 X) (setL [p3, p7, p10] [t3, t7, t10]) h57)) := by kernel_rfl
theorem s_judge_teller_formula_0 (X : Rn) (t6 t7 t9 : Value) (h : H) : sh X c_judge_teller_formula_0 (K_judge_teller_formula_0 X) (setL [p6, p7, p9] [t6, t7, t9]) h =
    k2 (vField 2 t7 h) fun t56 h1 =>
    k2 (vLoad1 t56 h1) fun t57 h2 =>
    k2 (vLoadN 3 t9 h2) fun t58 h3 =>
    k2 (vSlice 1 (fillL (repeatL [(.int .i64 0), (.int .i64 0), (.slice none 0 0)] 1) [(0 * 3, 3, t58)]) h3) fun t59 h4 =>
    k2 ((fillL [(.int .i64 0), (.int .i64 0), (.slice none 0 0)] [(0, 1, (.int .i64 4)), (1, 1, t57), (2, 1, t59)]).map fun c => (Value.agg ⟨c⟩, h4)) fun t60 h5 =>
    k2 (vStore 3 t6 t60 h5) fun _ h6 =>
    (vRes (some 3) t6 h6).bind fun r0 => some (.val (tupleOf [r0]) h6) := by kernel_rfl
theorem s_judge_teller_formula_1 (X : Rn) (l : Nat) (t3 t7 t9 t43 : Value) (h : H) : shRound X r_judge_teller_formula_1 l [t43] (setL [p3, p7, p9] [t3, t7, t9]) h =
    k2 (some (t43, h)) fun t10 h1 =>
    busyK l h1 fun h => sh X c_judge_teller_formula_2 (K_judge_teller_formula_2 X l) (setL [p3, p7, p9, p10, p43] [t3, t7, t9, t10, t43]) h := by kernel_rfl
theorem s_judge_teller_formula_2 (X : Rn) (l : Nat) (t3 t7 t9 t10 t43 : Value) (h : H) : sh X c_judge_teller_formula_2 (K_judge_teller_formula_2 X l) (setL [p3, p7, p9, p10, p43] [t3, t7, t9, t10, t43]) h =
    k2 (rdF (fun b => vLoadN 5 t3 b) 0 h [(0, h)]) fun t46 h1 =>
    k2 (vField 1 t7 h1) fun t47 h2 =>
    k2 (rdF (fun b => vLoad1 t47 b) 0 h2 [(0, h)]) fun t48 h3 =>
    k2 (some (t10, h3)) fun t49 h4 =>
    k2 (X.call (.func (.func n_judge_teller_formula) #[] #[]) [t46, t48, t49] h4) fun t50 h5 =>
    k2 (vField 2 t9 h5) fun t44 h6 =>
    k2 (rdF (fun b => vLoad1 t44 b) 0 h6 [(1, h5), (0, h)]) fun t45 h7 =>
    k2 (bltV h7 .len [t45]) fun t51 h8 =>
    k2 (vSlice 1 (fillL (repeatL [(.int .i64 0), (.int .i64 0), (.slice none 0 0)] 1) [(0 * 3, 3, (.agg ⟨[(.int .i64 0), (.int .i64 0), (.slice none 0 0)]⟩))]) h8) fun t52 h9 =>
    k2 (bltV h9 (.append 3 40) [t45, t52]) fun t53 h10 =>
    k2 (vIndex 3 t53 t51 h10) fun t54 h11 =>
    k2 (vField 2 t9 h11) fun t55 h12 =>
    st2 (store2 3 t54 t50 1 t55 t53 h12) fun h13 =>
    fin l none h13 := by kernel_rfl
theorem s_judge_teller_formula (X : Rn) (t0 t1 t2 : Value) (h : H) : shFunc X 3 f_judge_teller_formula [t0, t1, t2] h =
    k2 (some (newPtr h (cellsL t0))) fun t3 h1 =>
    k2 (some (newPtr h1 [(.int .i64 0), (.int .i64 0), (.slice none 0 0)])) fun t6 h2 =>
    k2 (vField 0 t3 h2) fun t12 h3 =>
    k2 (rdF (fun b => vLoad1 t12 b) 0 h3 [(0, h2)]) fun t13 h4 =>
    k2 (vField 1 t3 h4) fun t14 h5 =>
    k2 (rdF (fun b => vLoadN 3 t14 b) 0 h5 [(0, h2)]) fun t15 h6 =>
    k2 (some (t1, h6)) fun t16 h7 =>
    k2 (some (t2, h7)) fun t17 h8 =>
    k2 (vField 0 t3 h8) fun t18 h9 =>
    k2 (rdF (fun b => vLoad1 t18 b) 0 h9 [(0, h2)]) fun t19 h10 =>
    k2 (some (t1, h10)) fun t20 h11 =>
    k2 (some (t2, h11)) fun t21 h12 =>
    k2 ((fillL [(.int .i64 0), (.int .i64 0)] [(0, 1, t20), (1, 1, t21)]).map fun c => (Value.agg ⟨c⟩, h12)) fun t22 h13 =>
    k2 (rdF (fun b => vLookup (.leaves [0, 1]) (.int .i64 0) false t19 t22 b) 0 h13 [(0, h2)]) fun t23 h14 =>
    k2 (vBin .sub .other t23 (.int .i64 1) h14) fun t24 h15 =>
    k2 (X.call (.func (.func n_judge_rounds_first) #[] #[]) [t13, t15, t16, t17, t24] h15) fun t25 h16 =>
    k2 (some (t25, h16)) fun t11 h17 =>
    k2 (vExtract 0 t11 h17) fun t26 h18 =>
    k2 (some (newPtr h18 [(.int .i64 0), (.int .i64 0), (.int .i64 0)])) fun t7 h19 =>
    k2 (vStore 3 t7 t26 h19) fun _ h20 =>
    k2 (vExtract 1 t11 h20) fun t27 h21 =>
    k2 (some (t27, h21)) fun t8 h22 =>
    k2 (some (t8, h22)) fun t28 h23 =>
    k2 (vUn .not t28 h23) fun t29 h24 =>
    br t29
      (k2 (vLoadN 5 t3 h24) fun t30 h25 =>
    k2 (some (t2, h25)) fun t31 h26 =>
    k2 (some (t1, h26)) fun t32 h27 =>
    k2 (X.call (.func (.func n_judge_teller_formula) #[] #[]) [t30, t31, t32] h27) fun t33 h28 =>
    k2 (vSlice 1 (fillL (repeatL [(.int .i64 0), (.int .i64 0), (.slice none 0 0)] 1) [(0 * 3, 3, t33)]) h28) fun t34 h29 =>
    k2 ((fillL [(.int .i64 0), (.int .i64 0), (.slice none 0 0)] [(0, 1, (.int .i64 2)), (2, 1, t34)]).map fun c => (Value.agg ⟨c⟩, h29)) fun t35 h30 =>
    k2 (vStore 3 t6 t35 h30) fun _ h31 =>
    (vRes (some 3) t6 h31).bind fun r0 => some (.val (tupleOf [r0]) h31))
      (k2 ((fillL [(.int .i64 0), (.int .i64 0), (.slice none 0 0)] [(0, 1, (.int .i64 3))]).map fun c => (Value.agg ⟨c⟩, h24)) fun t36 h32 =>
    k2 (some (newPtr h32 [(.int .i64 0), (.int .i64 0), (.slice none 0 0)])) fun t9 h33 =>
    k2 (vStore 3 t9 t36 h33) fun _ h34 =>
    k2 (vField 1 t3 h34) fun t37 h35 =>
    k2 (vLoadN 3 t37 h35) fun t38 h36 =>
    k2 (some (t2, h36)) fun t39 h37 =>
    k2 (vField 2 t7 h37) fun t40 h38 =>
    k2 (vLoad1 t40 h38) fun t41 h39 =>
    k2 (X.call (.func (.func n_judge_leads) #[] #[]) [t38, t39, t41] h39) fun t42 h40 =>
    (isFn t42).bind fun fv => k2 (X.call fv [.func (.yield h40.next) #[] #[]] (h40.new (.loop .ready none (setL [p3, p7, p9] [t3, t7, t9]) r_judge_teller_formula_1))) fun _ h41 =>
    rgP h40.next h41 (fun h42 => sh X c_judge_teller_formula_0 (K_judge_teller_formula_0 X) (setL [p6, p7, p9] [t6, t7, t9]) h42) (fun i h42 => bx i 0 (sh X c_judge_teller_formula_0 (K_judge_teller_formula_0 X) (setL [p6, p7, p9] [t6, t7, t9]) h42) (none)) (fun h42 => (vRes (some 3) t6 h42).bind fun r0 => some (.val (tupleOf [r0]) h42))) := by kernel_rfl
theorem s_judge_both (X : Rn) (t0 t1 : Value) (h : H) : shFunc X 2 f_judge_both [t0, t1] h =
    k2 (some (newPtr h (cellsL t0))) fun t2 h1 =>
    k2 (some (newPtr h1 (cellsL t1))) fun t3 h2 =>
    k2 (some ((.bool false), h2)) fun t4 h3 =>
    k2 (vLoadN 3 t2 h3) fun t5 h4 =>
    k2 (X.call (.func (.func n_judge_Check) #[] #[]) [t5] h4) fun t6 h5 =>
    k2 (vBin .eql .other t6 (.int .i64 0) h5) fun t7 h6 =>
    k2 (some (t7, h6)) fun t8 h7 =>
    k2 (gd t8 true h7 (vLoadN 3 t3 h7)) fun t9 h8 =>
    k2 (gd t8 true h8 (X.call (.func (.func n_judge_Check) #[] #[]) [t9] h8)) fun t10 h9 =>
    k2 (gd t8 true h9 (vBin .eql .other t10 (.int .i64 0) h9)) fun t11 h10 =>
    k2 (vPick t8 t11 (.bool false) h10) fun t12 h11 =>
    k2 (some (t12, h11)) fun t13 h12 =>
    k2 (gd t13 true h12 (vField 1 t2 h12)) fun t14 h13 =>
    k2 (gd t13 true h13 (vLoad1 t14 h13)) fun t15 h14 =>
    k2 (gd t13 true h14 (vField 1 t3 h14)) fun t16 h15 =>
    k2 (gd t13 true h15 (vLoad1 t16 h15)) fun t17 h16 =>
    k2 (gd t13 true h16 (vBin .eql .other t15 t17 h16)) fun t18 h17 =>
    k2 (vPick t13 t18 (.bool false) h17) fun t19 h18 =>
    k2 (some (t19, h18)) fun t4 h19 =>
    some (.val (tupleOf [t4]) h19) := by kernel_rfl
theorem s_judge_alike_0 (X : Rn) (t2 t5 : Value) (h : H) : sh X c_judge_alike_0 (K_judge_alike_0 X) (setL [p2, p5] [t2, t5]) h =
    k2 (rdF (fun b => vLoadN 3 t5 b) 0 h [(0, h)]) fun t48 h1 =>
    k2 (X.call (.func (.func n_judge_apart) #[] #[]) [t48] h1) fun t49 h2 =>
    k2 (vField 0 t2 h2) fun t50 h3 =>
    k2 (rdF (fun b => vLoad1 t50 b) 0 h3 [(1, h2), (0, h)]) fun t51 h4 =>
    k2 ((fillL [(.int .i64 0), (.int .i64 0)] [(0, 1, (.int .i64 0)), (1, 1, t51)]).map fun c => (Value.agg ⟨c⟩, h4)) fun t52 h5 =>
    k2 (rdF (fun b => vLookup (.leaves [0, 1]) (.int .i64 0) true t49 t52 b) 1 h5 [(1, h2), (0, h)]) fun t53 h6 =>
    k2 (some (t53, h6)) fun t47 h7 =>
    k2 (vExtract 0 t47 h7) fun t54 h8 =>
    k2 (vExtract 1 t47 h8) fun t55 h9 =>
    k2 (some (t54, h9)) fun t8 h10 =>
    k2 (some (t55, h10)) fun t9 h11 =>
    k2 (some (t9, h11)) fun t56 h12 =>
    k2 (vUn .not t56 h12) fun t57 h13 =>
    k2 (some (t57, h13)) fun t4 h14 =>
    some (.val (tupleOf [t4]) h14) := by kernel_rfl
theorem s_judge_alike_1 (X : Rn) (t2 t5 t22 t23 t24 : Value) (h : H) : sh X c_judge_alike_1 (K_judge_alike_1 X) (setL [p2, p5, p22, p23, p24] [t2, t5, t22, t23, t24]) h =
    k2 (vBin .lss .other t24 t23 h) fun t25 h1 =>
    br t25
      (k2 (vIndex 3 t22 t24 h1) fun t26 h2 =>
    k2 (vLoadN 3 t26 h2) fun t27 h3 =>
    k2 (some (newPtr h3 [(.int .i64 0), (.int .i64 0), (.int .i64 0)])) fun t7 h4 =>
    k2 (vStore 3 t7 t27 h4) fun _ h5 =>
    k2 (vField 2 t5 h5) fun t28 h6 =>
    k2 (vLoad1 t28 h6) fun t29 h7 =>
    k2 (vField 0 t7 h7) fun t30 h8 =>
    k2 (vLoad1 t30 h8) fun t31 h9 =>
    k2 (vField 0 t2 h9) fun t32 h10 =>
    k2 (vLoad1 t32 h10) fun t33 h11 =>
    k2 (vBin .add .other t31 t33 h11) fun t34 h12 =>
    k2 (vField 1 t7 h12) fun t35 h13 =>
    k2 (vLoad1 t35 h13) fun t36 h14 =>
    k2 (vField 0 t2 h14) fun t37 h15 =>
    k2 (vLoad1 t37 h15) fun t38 h16 =>
    k2 (vBin .add .other t36 t38 h16) fun t39 h17 =>
    k2 (vField 2 t7 h17) fun t40 h18 =>
    k2 (vLoad1 t40 h18) fun t41 h19 =>
    k2 ((fillL [(.int .i64 0), (.int .i64 0), (.int .i64 0)] [(0, 1, t34), (1, 1, t39), (2, 1, t41)]).map fun c => (Value.agg ⟨c⟩, h19)) fun t42 h20 =>
    k2 (vSlice 1 (fillL (repeatL [(.int .i64 0), (.int .i64 0), (.int .i64 0)] 1) [(0 * 3, 3, t42)]) h20) fun t43 h21 =>
    k2 (bltV h21 (.append 3 24) [t29, t43]) fun t44 h22 =>
    k2 (vField 2 t5 h22) fun t45 h23 =>
    k2 (vStore 1 t45 t44 h23) fun _ h24 =>
    k2 (vBin .add .other t24 (.int .i64 1) h24) fun t46 h25 =>
    k2 (some (t46, h25)) fun t24_26 h27 =>
    lp X [p2, p5, p22, p23, p24] c_judge_alike_1 (kBlk 0 (kSeq X c_judge_alike_0 [p2, p5] (K_judge_alike_0 X))) [t2, t5, t22, t23, t24_26] h27)
      (sh X c_judge_alike_0 (K_judge_alike_0 X) (setL [p2, p5] [t2, t5]) h1) := by kernel_rfl
theorem l_judge_alike_1 (F : FuncId → Option CFunc) (t2 t5 t22 t23 t24 : Value) (h : H) {r : Out} : let X := rI F; sh X c_judge_alike_1 (K_judge_alike_1 X) (setL [p2, p5, p22, p23, p24] [t2, t5, t22, t23, t24]) h = some r → lp X [p2, p5, p22, p23, p24] c_judge_alike_1 (kBlk 0 (kSeq X c_judge_alike_0 [p2, p5] (K_judge_alike_0 X))) [t2, t5, t22, t23, t24] h = some r := fun hv => lp_step (by decide) hv
theorem s_judge_alike (X : Rn) (t0 t1 : Value) (h : H) : shFunc X 2 f_judge_alike [t0, t1] h =
    k2 (some (newPtr h (cellsL t0))) fun t2 h1 =>
    k2 (some (newPtr h1 (cellsL t1))) fun t3 h2 =>
    k2 (some ((.bool false), h2)) fun t4 h3 =>
    k2 (vField 2 t2 h3) fun t17 h4 =>
    k2 (rdF (fun b => vLoad1 t17 b) 0 h4 [(0, h3)]) fun t18 h5 =>
    k2 (X.call (.func (.func n_slices_Clone_api_JudgeEdge_api_JudgeEdge_) #[] #[]) [t18] h5) fun t19 h6 =>
    k2 (vField 0 t2 h6) fun t10 h7 =>
    k2 (rdF (fun b => vLoad1 t10 b) 0 h7 [(1, h6), (0, h3)]) fun t11 h8 =>
    k2 (vField 0 t3 h8) fun t12 h9 =>
    k2 (rdF (fun b => vLoad1 t12 b) 0 h9 [(1, h6), (0, h3)]) fun t13 h10 =>
    k2 (vBin .add .other t11 t13 h10) fun t14 h11 =>
    k2 (vField 1 t2 h11) fun t15 h12 =>
    k2 (rdF (fun b => vLoad1 t15 b) 0 h12 [(1, h6), (0, h3)]) fun t16 h13 =>
    k2 ((fillL [(.int .i64 0), (.int .i64 0), (.slice none 0 0)] [(0, 1, t14), (1, 1, t16), (2, 1, t19)]).map fun c => (Value.agg ⟨c⟩, h13)) fun t20 h14 =>
    k2 (some (newPtr h14 [(.int .i64 0), (.int .i64 0), (.slice none 0 0)])) fun t5 h15 =>
    k2 (vStore 3 t5 t20 h15) fun _ h16 =>
    k2 (vField 2 t3 h16) fun t21 h17 =>
    k2 (vLoad1 t21 h17) fun t22 h18 =>
    k2 (bltV h18 .len [t22]) fun t23 h19 =>
    k2 (some ((.int .i64 0), h19)) fun t24 h20 =>
    lp X [p2, p5, p22, p23, p24] c_judge_alike_1 (kBlk 0 (kSeq X c_judge_alike_0 [p2, p5] (K_judge_alike_0 X))) [t2, t5, t22, t23, t24] h20 := by kernel_rfl
theorem s_judge_formed_2 (X : Rn) (h : H) : sh X c_judge_formed_2 (K_judge_formed_2 X) (setL [] []) h =
    k2 (some ((.bool true), h)) fun t6 h1 =>
    some (.val (tupleOf [t6]) h1) := by kernel_rfl
theorem s_judge_formed_3 (X : Rn) (t2 t3 t59 t60 t61 : Value) (h : H) : sh X c_judge_formed_3 (K_judge_formed_3 X) (setL [p2, p3, p59, p60, p61] [t2, t3, t59, t60, t61]) h =
    k2 (vBin .lss .other t61 t60 h) fun t62 h1 =>
    br t62
      (k2 (vIndex 3 t59 t61 h1) fun t63 h2 =>
    k2 (vLoadN 3 t63 h2) fun t64 h3 =>
    k2 (some (newPtr h3 [(.int .i64 0), (.int .i64 0), (.slice none 0 0)])) fun t9 h4 =>
    k2 (vStore 3 t9 t64 h4) fun _ h5 =>
    k2 (vLoadN 3 t3 h5) fun t65 h6 =>
    k2 (vLoadN 3 t9 h6) fun t66 h7 =>
    k2 (some (t2, h7)) fun t67 h8 =>
    k2 (X.call (.func (.func n_judge_formed) #[] #[]) [t65, t66, t67] h8) fun t68 h9 =>
    k2 (vUn .not t68 h9) fun t69 h10 =>
    br t69
      (k2 (some ((.bool false), h10)) fun t6 h11 =>
    some (.val (tupleOf [t6]) h11))
      (k2 (vBin .add .other t61 (.int .i64 1) h10) fun t70 h12 =>
    k2 (some (t70, h12)) fun t61_13 h14 =>
    lp X [p2, p3, p59, p60, p61] c_judge_formed_3 (kBlk 1 (kSeq X c_judge_formed_2 [] (K_judge_formed_2 X))) [t2, t3, t59, t60, t61_13] h14))
      (sh X c_judge_formed_2 (K_judge_formed_2 X) (setL [] []) h1) := by kernel_rfl
theorem l_judge_formed_3 (F : FuncId → Option CFunc) (t2 t3 t59 t60 t61 : Value) (h : H) {r : Out} : let X := rI F; sh X c_judge_formed_3 (K_judge_formed_3 X) (setL [p2, p3, p59, p60, p61] [t2, t3, t59, t60, t61]) h = some r → lp X [p2, p3, p59, p60, p61] c_judge_formed_3 (kBlk 1 (kSeq X c_judge_formed_2 [] (K_judge_formed_2 X))) [t2, t3, t59, t60, t61] h = some r := fun hv => lp_step (by decide) hv
theorem s_judge_formed_0 (X : Rn) (t2 t3 t4 t7 : Value) (h : H) : sh X c_judge_formed_0 (K_judge_formed_0 X) (setL [p2, p3, p4, p7] [t2, t3, t4, t7]) h =
    k2 (vField 2 t4 h) fun t31 h1 =>
    k2 (vLoad1 t31 h1) fun t32 h2 =>
    k2 (bltV h2 .len [t32]) fun t33 h3 =>
    k2 (some (t7, h3)) fun t34 h4 =>
    k2 (vBin .neq .other t33 t34 h4) fun t35 h5 =>
    k2 (some (t35, h5)) fun t36 h6 =>
    k2 (gd t36 false h6 (vField 1 t4 h6)) fun t37 h7 =>
    k2 (gd t36 false h7 (vLoad1 t37 h7)) fun t38 h8 =>
    k2 (gd t36 false h8 (vBin .neq .other t38 (.int .i64 0) h8)) fun t39 h9 =>
    k2 (gd t36 false h9 (some (t39, h9))) fun t40 h10 =>
    k2 (gd t40 true h10 (vField 0 t4 h10)) fun t41 h11 =>
    k2 (gd t40 true h11 (vLoad1 t41 h11)) fun t42 h12 =>
    k2 (gd t40 true h12 (vBin .neq .other t42 (.int .i64 4) h12)) fun t43 h13 =>
    k2 (gd t36 false h13 (vPick t40 t43 (.bool false) h13)) fun t44 h14 =>
    k2 (vPick t36 (.bool true) t44 h14) fun t45 h15 =>
    k2 (some (t45, h15)) fun t46 h16 =>
    k2 (gd t46 false h16 (vField 1 t4 h16)) fun t47 h17 =>
    k2 (gd t46 false h17 (vLoad1 t47 h17)) fun t48 h18 =>
    k2 (gd t46 false h18 (vBin .lss .other t48 (.int .i64 0) h18)) fun t49 h19 =>
    k2 (vPick t46 (.bool true) t49 h19) fun t50 h20 =>
    k2 (some (t50, h20)) fun t51 h21 =>
    k2 (gd t51 false h21 (vField 1 t4 h21)) fun t52 h22 =>
    k2 (gd t51 false h22 (vLoad1 t52 h22)) fun t53 h23 =>
    k2 (gd t51 false h23 (vField 1 t3 h23)) fun t54 h24 =>
    k2 (gd t51 false h24 (vLoad1 t54 h24)) fun t55 h25 =>
    k2 (gd t51 false h25 (vBin .geq .other t53 t55 h25)) fun t56 h26 =>
    k2 (vPick t51 (.bool true) t56 h26) fun t57 h27 =>
    br t57
      (k2 (some ((.bool false), h27)) fun t6 h28 =>
    some (.val (tupleOf [t6]) h28))
      (k2 (vField 2 t4 h27) fun t58 h29 =>
    k2 (vLoad1 t58 h29) fun t59 h30 =>
    k2 (bltV h30 .len [t59]) fun t60 h31 =>
    k2 (some ((.int .i64 0), h31)) fun t61 h32 =>
    lp X [p2, p3, p59, p60, p61] c_judge_formed_3 (kBlk 1 (kSeq X c_judge_formed_2 [] (K_judge_formed_2 X))) [t2, t3, t59, t60, t61] h32) := by kernel_rfl
theorem s_judge_formed_1 (X : Rn) (t2 t3 t4 t7 t23 t26 : Value) (h : H) : sh X c_judge_formed_1 (K_judge_formed_1 X) (setL [p2, p3, p4, p7, p23, p26] [t2, t3, t4, t7, t23, t26]) h =
    br t26
      (k2 (some ((.int .i64 1), h)) fun t7_1 h2 =>
    sh X c_judge_formed_0 (K_judge_formed_0 X) (setL [p2, p3, p4, p7] [t2, t3, t4, t7_1]) h2)
      (k2 (vBin .eql .other t23 (.int .i64 3) h) fun t30 h3 =>
    k2 (some (t30, h3)) fun t29 h4 =>
    br t29
      (sh X c_judge_formed_0 (K_judge_formed_0 X) (setL [p2, p3, p4, p7] [t2, t3, t4, t7]) h4)
      (k2 (some ((.bool false), h4)) fun t6 h5 =>
    some (.val (tupleOf [t6]) h5))) := by kernel_rfl
theorem s_judge_formed (X : Rn) (t0 t1 t2 : Value) (h : H) : shFunc X 3 f_judge_formed [t0, t1, t2] h =
    k2 (some (newPtr h (cellsL t0))) fun t3 h1 =>
    k2 (some (newPtr h1 (cellsL t1))) fun t4 h2 =>
    k2 (some ((.bool false), h2)) fun t6 h3 =>
    k2 (some (t2, h3)) fun t10 h4 =>
    k2 (vNil t10 h4) fun t11 h5 =>
    k2 (vLoad1 t11 h5) fun t12 h6 =>
    k2 (vBin .sub .other t12 (.int .i64 1) h6) fun t13 h7 =>
    k2 (vNil t10 h7) fun t14 h8 =>
    k2 (vStore 1 t14 t13 h8) fun _ h9 =>
    k2 (some (t2, h9)) fun t15 h10 =>
    k2 (vNil t15 h10) fun t16 h11 =>
    k2 (vLoad1 t16 h11) fun t17 h12 =>
    k2 (vBin .lss .other t17 (.int .i64 0) h12) fun t18 h13 =>
    br t18
      (k2 (some ((.bool false), h13)) fun t6 h14 =>
    some (.val (tupleOf [t6]) h14))
      (k2 (vField 2 t4 h13) fun t19 h15 =>
    k2 (vLoad1 t19 h15) fun t20 h16 =>
    k2 (bltV h16 .len [t20]) fun t21 h17 =>
    k2 (some (t21, h17)) fun t7 h18 =>
    k2 (vField 0 t4 h18) fun t22 h19 =>
    k2 (vLoad1 t22 h19) fun t23 h20 =>
    k2 (vBin .eql .other t23 (.int .i64 1) h20) fun t25 h21 =>
    k2 (some (t25, h21)) fun t24 h22 =>
    br t24
      (k2 (some ((.int .i64 0), h22)) fun t7_23 h24 =>
    sh X c_judge_formed_0 (K_judge_formed_0 X) (setL [p2, p3, p4, p7] [t2, t3, t4, t7_23]) h24)
      (k2 (vBin .eql .other t23 (.int .i64 2) h22) fun t27 h25 =>
    k2 (some (t27, h25)) fun t26 h26 =>
    br t26
      (sh X c_judge_formed_1 (K_judge_formed_1 X) (setL [p2, p3, p4, p7, p23, p26] [t2, t3, t4, t7, t23, t26]) h26)
      (k2 (vBin .eql .other t23 (.int .i64 4) h26) fun t28 h27 =>
    k2 (some (t28, h27)) fun t26_28 h29 =>
    sh X c_judge_formed_1 (K_judge_formed_1 X) (setL [p2, p3, p4, p7, p23, p26] [t2, t3, t4, t7, t23, t26_28]) h29))) := by kernel_rfl
theorem s_judge_holds_0 (X : Rn) (t5 : Value) (h : H) : sh X c_judge_holds_0 (K_judge_holds_0 X) (setL [p5] [t5]) h =
    k2 (some (t5, h)) fun t117 h1 =>
    k2 (some (t117, h1)) fun t4 h2 =>
    some (.val (tupleOf [t4]) h2) := by kernel_rfl
theorem s_judge_holds_1 (X : Rn) (t5 t65 t66 t67 : Value) (h : H) : sh X c_judge_holds_1 (K_judge_holds_1 X) (setL [p5, p65, p66, p67] [t5, t65, t66, t67]) h =
    k2 (vBin .lss .other t67 t66 h) fun t68 h1 =>
    br t68
      (k2 (some (t67, h1)) fun t69 h2 =>
    k2 (vIndex 1 t65 t67 h2) fun t70 h3 =>
    k2 (vLoad1 t70 h3) fun t71 h4 =>
    k2 (some (t69, h4)) fun t6 h5 =>
    k2 (some (t71, h5)) fun t7 h6 =>
    k2 (some (t5, h6)) fun t72 h7 =>
    k2 (some (t6, h7)) fun t73 h8 =>
    k2 (some (t7, h8)) fun t74 h9 =>
    k2 (vUn .not t74 h9) fun t75 h10 =>
    k2 (vIndex 1 t72 t73 h10) fun t76 h11 =>
    k2 (vStore 1 t76 t75 h11) fun _ h12 =>
    k2 (vBin .add .other t67 (.int .i64 1) h12) fun t77 h13 =>
    k2 (some (t77, h13)) fun t67_14 h15 =>
    lp X [p5, p65, p66, p67] c_judge_holds_1 (kBlk 7 (kBlk 0 (kSeq X c_judge_holds_0 [p5] (K_judge_holds_0 X)))) [t5, t65, t66, t67_14] h15)
      (sh X c_judge_holds_0 (K_judge_holds_0 X) (setL [p5] [t5]) h1) := by kernel_rfl
theorem l_judge_holds_1 (F : FuncId → Option CFunc) (t5 t65 t66 t67 : Value) (h : H) {r : Out} : let X := rI F; sh X c_judge_holds_1 (K_judge_holds_1 X) (setL [p5, p65, p66, p67] [t5, t65, t66, t67]) h = some r → lp X [p5, p65, p66, p67] c_judge_holds_1 (kBlk 7 (kBlk 0 (kSeq X c_judge_holds_0 [p5] (K_judge_holds_0 X)))) [t5, t65, t66, t67] h = some r := fun hv => lp_step (by decide) hv
theorem s_judge_holds_2 (X : Rn) (t3 t5 t8 t87 t88 t89 : Value) (h : H) : sh X c_judge_holds_2 (K_judge_holds_2 X) (setL [p3, p5, p8, p87, p88, p89] [t3, t5, t8, t87, t88, t89]) h =
    k2 (vBin .lss .other t89 t88 h) fun t90 h1 =>
    br t90
      (k2 (vIndex 3 t87 t89 h1) fun t91 h2 =>
    k2 (vLoadN 3 t91 h2) fun t92 h3 =>
    k2 (some (newPtr h3 [(.int .i64 0), (.int .i64 0), (.int .i64 0)])) fun t10 h4 =>
    k2 (vStore 3 t10 t92 h4) fun _ h5 =>
    k2 (some (t5, h5)) fun t93 h6 =>
    k2 (vField 0 t10 h6) fun t94 h7 =>
    k2 (rdF (fun b => vLoad1 t94 b) 0 h7 [(0, h5)]) fun t95 h8 =>
    k2 (some (t5, h8)) fun t96 h9 =>
    k2 (vField 0 t10 h9) fun t97 h10 =>
    k2 (rdF (fun b => vLoad1 t97 b) 0 h10 [(0, h5)]) fun t98 h11 =>
    k2 (vIndex 1 t96 t98 h11) fun t99 h12 =>
    k2 (rdF (fun b => vLoad1 t99 b) 0 h12 [(0, h5)]) fun t100 h13 =>
    k2 (some (t100, h13)) fun t101 h14 =>
    k2 (gd t101 false h14 (vField 2 t10 h14)) fun t102 h15 =>
    k2 (gd t101 false h15 (rdF (fun b => vLoad1 t102 b) 0 h15 [(0, h5)])) fun t103 h16 =>
    k2 (gd t101 false h16 (vField 1 t3 h16)) fun t104 h17 =>
    k2 (gd t101 false h17 (rdF (fun b => vLoad1 t104 b) 0 h17 [(0, h5)])) fun t105 h18 =>
    k2 (gd t101 false h18 (vBin .eql .other t103 t105 h18)) fun t106 h19 =>
    k2 (gd t101 false h19 (some (t106, h19))) fun t107 h20 =>
    k2 (gd t107 true h20 (some (t8, h20))) fun t108 h21 =>
    k2 (gd t107 true h21 (vField 1 t10 h21)) fun t109 h22 =>
    k2 (gd t107 true h22 (rdF (fun b => vLoad1 t109 b) 0 h22 [(0, h5)])) fun t110 h23 =>
    k2 (gd t107 true h23 (vIndex 1 t108 t110 h23)) fun t111 h24 =>
    k2 (gd t107 true h24 (rdF (fun b => vLoad1 t111 b) 0 h24 [(0, h5)])) fun t112 h25 =>
    k2 (gd t101 false h25 (vPick t107 t112 (.bool false) h25)) fun t113 h26 =>
    k2 (vPick t101 (.bool true) t113 h26) fun t114 h27 =>
    k2 (vIndex 1 t93 t95 h27) fun t115 h28 =>
    k2 (vStore 1 t115 t114 h28) fun _ h29 =>
    k2 (vBin .add .other t89 (.int .i64 1) h29) fun t116 h30 =>
    k2 (some (t116, h30)) fun t89_31 h32 =>
    lp X [p3, p5, p8, p87, p88, p89] c_judge_holds_2 (kBlk 9 (kBlk 0 (kSeq X c_judge_holds_0 [p5] (K_judge_holds_0 X)))) [t3, t5, t8, t87, t88, t89_31] h32)
      (sh X c_judge_holds_0 (K_judge_holds_0 X) (setL [p5] [t5]) h1) := by kernel_rfl
theorem l_judge_holds_2 (F : FuncId → Option CFunc) (t3 t5 t8 t87 t88 t89 : Value) (h : H) {r : Out} : let X := rI F; sh X c_judge_holds_2 (K_judge_holds_2 X) (setL [p3, p5, p8, p87, p88, p89] [t3, t5, t8, t87, t88, t89]) h = some r → lp X [p3, p5, p8, p87, p88, p89] c_judge_holds_2 (kBlk 9 (kBlk 0 (kSeq X c_judge_holds_0 [p5] (K_judge_holds_0 X)))) [t3, t5, t8, t87, t88, t89] h = some r := fun hv => lp_step (by decide) hv
theorem s_judge_holds_6 (X : Rn) (t2 t5 t31 t32 t33 : Value) (h : H) : sh X c_judge_holds_6 (K_judge_holds_6 X) (setL [p2, p5, p31, p32, p33] [t2, t5, t31, t32, t33]) h =
    k2 (vBin .add .other t33 (.int .i64 1) h) fun t57 h1 =>
    k2 (some (t57, h1)) fun t33_2 h3 =>
    lp X [p2, p5, p31, p32, p33] c_judge_holds_5 (kBlk 3 (K_judge_holds_3 X)) [t2, t5, t31, t32, t33_2] h3 := by kernel_rfl
theorem s_judge_holds_7 (X : Rn) (t2 t5 t31 t32 t33 t39 t40 t41 : Value) (h : H) : sh X c_judge_holds_7 (K_judge_holds_7 X) (setL [p2, p5, p31, p32, p33, p39, p40, p41] [t2, t5, t31, t32, t33, t39, t40, t41]) h =
    k2 (vBin .lss .other t41 t40 h) fun t42 h1 =>
    br t42
      (k2 (some (t41, h1)) fun t43 h2 =>
    k2 (vIndex 1 t39 t41 h2) fun t44 h3 =>
    k2 (vLoad1 t44 h3) fun t45 h4 =>
    k2 (some (t43, h4)) fun t14 h5 =>
    k2 (some (t45, h5)) fun t15 h6 =>
    k2 (some (t5, h6)) fun t46 h7 =>
    k2 (some (t14, h7)) fun t47 h8 =>
    k2 (some (t5, h8)) fun t48 h9 =>
    k2 (some (t14, h9)) fun t49 h10 =>
    k2 (vIndex 1 t48 t49 h10) fun t50 h11 =>
    k2 (vLoad1 t50 h11) fun t51 h12 =>
    k2 (some (t51, h12)) fun t52 h13 =>
    k2 (gd t52 true h13 (some (t15, h13))) fun t53 h14 =>
    k2 (vPick t52 t53 (.bool false) h14) fun t54 h15 =>
    k2 (vIndex 1 t46 t47 h15) fun t55 h16 =>
    k2 (vStore 1 t55 t54 h16) fun _ h17 =>
    k2 (vBin .add .other t41 (.int .i64 1) h17) fun t56 h18 =>
    k2 (some (t56, h18)) fun t41_19 h20 =>
    lp X [p2, p5, p31, p32, p33, p39, p40, p41] c_judge_holds_7 (kBlk 5 (kBlk 4 (kSeq X c_judge_holds_6 [p2, p5, p31, p32, p33] (K_judge_holds_6 X)))) [t2, t5, t31, t32, t33, t39, t40, t41_19] h20)
      (sh X c_judge_holds_6 (K_judge_holds_6 X) (setL [p2, p5, p31, p32, p33] [t2, t5, t31, t32, t33]) h1) := by kernel_rfl
theorem l_judge_holds_7 (F : FuncId → Option CFunc) (t2 t5 t31 t32 t33 t39 t40 t41 : Value) (h : H) {r : Out} : let X := rI F; sh X c_judge_holds_7 (K_judge_holds_7 X) (setL [p2, p5, p31, p32, p33, p39, p40, p41] [t2, t5, t31, t32, t33, t39, t40, t41]) h = some r → lp X [p2, p5, p31, p32, p33, p39, p40, p41] c_judge_holds_7 (kBlk 5 (kBlk 4 (kSeq X c_judge_holds_6 [p2, p5, p31, p32, p33] (K_judge_holds_6 X)))) [t2, t5, t31, t32, t33, t39, t40, t41] h = some r := fun hv => lp_step (by decide) hv
theorem s_judge_holds_5 (X : Rn) (t2 t5 t31 t32 t33 : Value) (h : H) : sh X c_judge_holds_5 (K_judge_holds_5 X) (setL [p2, p5, p31, p32, p33] [t2, t5, t31, t32, t33]) h =
    k2 (vBin .lss .other t33 t32 h) fun t34 h1 =>
    br t34
      (k2 (vIndex 3 t31 t33 h1) fun t35 h2 =>
    k2 (vLoadN 3 t35 h2) fun t36 h3 =>
    k2 (some (newPtr h3 [(.int .i64 0), (.int .i64 0), (.slice none 0 0)])) fun t13 h4 =>
    k2 (vStore 3 t13 t36 h4) fun _ h5 =>
    k2 (vLoadN 3 t2 h5) fun t37 h6 =>
    k2 (vLoadN 3 t13 h6) fun t38 h7 =>
    k2 (X.call (.func (.func n_judge_holds) #[] #[]) [t37, t38] h7) fun t39 h8 =>
    k2 (bltV h8 .len [t39]) fun t40 h9 =>
    k2 (some ((.int .i64 0), h9)) fun t41 h10 =>
    lp X [p2, p5, p31, p32, p33, p39, p40, p41] c_judge_holds_7 (kBlk 5 (kBlk 4 (kSeq X c_judge_holds_6 [p2, p5, p31, p32, p33] (K_judge_holds_6 X)))) [t2, t5, t31, t32, t33, t39, t40, t41] h10)
      (sh X c_judge_holds_0 (K_judge_holds_0 X) (setL [p5] [t5]) h1) := by kernel_rfl
theorem l_judge_holds_5 (F : FuncId → Option CFunc) (t2 t5 t31 t32 t33 : Value) (h : H) {r : Out} : let X := rI F; sh X c_judge_holds_5 (K_judge_holds_5 X) (setL [p2, p5, p31, p32, p33] [t2, t5, t31, t32, t33]) h = some r → lp X [p2, p5, p31, p32, p33] c_judge_holds_5 (kBlk 3 (K_judge_holds_3 X)) [t2, t5, t31, t32, t33] h = some r := fun hv => lp_step (by decide) hv
theorem s_judge_holds_3 (X : Rn) (t2 t3 t5 : Value) (h : H) : sh X c_judge_holds_3 (K_judge_holds_3 X) (setL [p2, p3, p5] [t2, t3, t5]) h =
    k2 (vField 2 t3 h) fun t30 h1 =>
    k2 (vLoad1 t30 h1) fun t31 h2 =>
    k2 (bltV h2 .len [t31]) fun t32 h3 =>
    k2 (some ((.int .i64 0), h3)) fun t33 h4 =>
    lp X [p2, p5, p31, p32, p33] c_judge_holds_5 (kBlk 3 (K_judge_holds_3 X)) [t2, t5, t31, t32, t33] h4 := by kernel_rfl
theorem s_judge_holds_4 (X : Rn) (t2 t3 t5 t22 t23 : Value) (h : H) : sh X c_judge_holds_4 (K_judge_holds_4 X) (setL [p2, p3, p5, p22, p23] [t2, t3, t5, t22, t23]) h =
    k2 (vBin .lss .other t23 t22 h) fun t24 h1 =>
    br t24
      (k2 (some (t23, h1)) fun t25 h2 =>
    k2 (some (t25, h2)) fun t11 h3 =>
    k2 (some (t5, h3)) fun t26 h4 =>
    k2 (some (t11, h4)) fun t27 h5 =>
    k2 (vIndex 1 t26 t27 h5) fun t28 h6 =>
    k2 (vStore 1 t28 (.bool true) h6) fun _ h7 =>
    k2 (vBin .add .other t23 (.int .i64 1) h7) fun t29 h8 =>
    k2 (some (t29, h8)) fun t23_9 h10 =>
    lp X [p2, p3, p5, p22, p23] c_judge_holds_4 (kBlk 1 (kSeq X c_judge_holds_3 [p2, p3, p5] (K_judge_holds_3 X))) [t2, t3, t5, t22, t23_9] h10)
      (sh X c_judge_holds_3 (K_judge_holds_3 X) (setL [p2, p3, p5] [t2, t3, t5]) h1) := by kernel_rfl
theorem l_judge_holds_4 (F : FuncId → Option CFunc) (t2 t3 t5 t22 t23 : Value) (h : H) {r : Out} : let X := rI F; sh X c_judge_holds_4 (K_judge_holds_4 X) (setL [p2, p3, p5, p22, p23] [t2, t3, t5, t22, t23]) h = some r → lp X [p2, p3, p5, p22, p23] c_judge_holds_4 (kBlk 1 (kSeq X c_judge_holds_3 [p2, p3, p5] (K_judge_holds_3 X))) [t2, t3, t5, t22, t23] h = some r := fun hv => lp_step (by decide) hv
theorem s_judge_holds (X : Rn) (t0 t1 : Value) (h : H) : shFunc X 2 f_judge_holds [t0, t1] h =
    k2 (some (newPtr h (cellsL t0))) fun t2 h1 =>
    k2 (some (newPtr h1 (cellsL t1))) fun t3 h2 =>
    k2 (some ((.slice none 0 0), h2)) fun t4 h3 =>
    k2 (vField 0 t2 h3) fun t16 h4 =>
    k2 (vLoad1 t16 h4) fun t17 h5 =>
    k2 (makeSliceV 1 [(.bool false)] h5 t17 t17) fun t18 h6 =>
    k2 (some (t18, h6)) fun t5 h7 =>
    k2 (vField 0 t3 h7) fun t19 h8 =>
    k2 (vLoad1 t19 h8) fun t20 h9 =>
    k2 (vBin .eql .other t20 (.int .i64 2) h9) fun t59 h10 =>
    k2 (some (t59, h10)) fun t58 h11 =>
    br t58
      (k2 (rdF (fun b => vLoadN 3 t2 b) 0 h11 [(0, h11)]) fun t60 h12 =>
    k2 (vField 2 t3 h12) fun t61 h13 =>
    k2 (rdF (fun b => vLoad1 t61 b) 0 h13 [(0, h11)]) fun t62 h14 =>
    k2 (vIndex 3 t62 (.int .i64 0) h14) fun t63 h15 =>
    k2 (rdF (fun b => vLoadN 3 t63 b) 0 h15 [(0, h11)]) fun t64 h16 =>
    k2 (X.call (.func (.func n_judge_holds) #[] #[]) [t60, t64] h16) fun t65 h17 =>
    k2 (bltV h17 .len [t65]) fun t66 h18 =>
    k2 (some ((.int .i64 0), h18)) fun t67 h19 =>
    lp X [p5, p65, p66, p67] c_judge_holds_1 (kBlk 7 (kBlk 0 (kSeq X c_judge_holds_0 [p5] (K_judge_holds_0 X)))) [t5, t65, t66, t67] h19)
      (k2 (vBin .eql .other t20 (.int .i64 4) h11) fun t79 h20 =>
    k2 (some (t79, h20)) fun t78 h21 =>
    br t78
      (k2 (rdF (fun b => vLoadN 3 t2 b) 0 h21 [(0, h21)]) fun t80 h22 =>
    k2 (vField 2 t3 h22) fun t81 h23 =>
    k2 (rdF (fun b => vLoad1 t81 b) 0 h23 [(0, h21)]) fun t82 h24 =>
    k2 (vIndex 3 t82 (.int .i64 0) h24) fun t83 h25 =>
    k2 (rdF (fun b => vLoadN 3 t83 b) 0 h25 [(0, h21)]) fun t84 h26 =>
    k2 (X.call (.func (.func n_judge_holds) #[] #[]) [t80, t84] h26) fun t85 h27 =>
    k2 (some (t85, h27)) fun t8 h28 =>
    k2 (vField 2 t2 h28) fun t86 h29 =>
    k2 (vLoad1 t86 h29) fun t87 h30 =>
    k2 (bltV h30 .len [t87]) fun t88 h31 =>
    k2 (some ((.int .i64 0), h31)) fun t89 h32 =>
    lp X [p3, p5, p8, p87, p88, p89] c_judge_holds_2 (kBlk 9 (kBlk 0 (kSeq X c_judge_holds_0 [p5] (K_judge_holds_0 X)))) [t3, t5, t8, t87, t88, t89] h32)
      (k2 (some (t5, h21)) fun t21 h33 =>
    k2 (bltV h33 .len [t21]) fun t22 h34 =>
    k2 (some ((.int .i64 0), h34)) fun t23 h35 =>
    lp X [p2, p3, p5, p22, p23] c_judge_holds_4 (kBlk 1 (kSeq X c_judge_holds_3 [p2, p3, p5] (K_judge_holds_3 X))) [t2, t3, t5, t22, t23] h35)) := by kernel_rfl
theorem s_cabotageref22_formula_1 (X : Rn) (h : H) : sh X c_cabotageref22_formula_1 (K_cabotageref22_formula_1 X) (setL [] []) h =
    k2 (some ((.bool true), h)) fun t6 h1 =>
    some (.val (tupleOf [t6]) h1) := by kernel_rfl
theorem s_cabotageref22_formula_2 (X : Rn) (t2 t3 t4 t7 : Value) (h : H) : sh X c_cabotageref22_formula_2 (K_cabotageref22_formula_2 X) (setL [p2, p3, p4, p7] [t2, t3, t4, t7]) h =
    k2 (some (t7, h)) fun t65 h1 =>
    k2 (vField 2 t4 h1) fun t66 h2 =>
    k2 (vLoad1 t66 h2) fun t67 h3 =>
    k2 (bltV h3 .len [t67]) fun t68 h4 =>
    k2 (vBin .lss .other t65 t68 h4) fun t69 h5 =>
    br t69
      (k2 (rdF (fun b => vLoadN 3 t3 b) 0 h5 [(0, h5)]) fun t72 h6 =>
    k2 (vField 2 t4 h6) fun t73 h7 =>
    k2 (rdF (fun b => vLoad1 t73 b) 0 h7 [(0, h5)]) fun t74 h8 =>
    k2 (some (t7, h8)) fun t75 h9 =>
    k2 (vIndex 3 t74 t75 h9) fun t76 h10 =>
    k2 (rdF (fun b => vLoadN 3 t76 b) 0 h10 [(0, h5)]) fun t77 h11 =>
    k2 (some (t2, h11)) fun t78 h12 =>
    k2 (X.call (.func (.func n_cabotageref22_formula) #[] #[]) [t72, t77, t78] h12) fun t79 h13 =>
    k2 (vUn .not t79 h13) fun t80 h14 =>
    br t80
      (k2 (some ((.bool false), h14)) fun t6 h15 =>
    some (.val (tupleOf [t6]) h15))
      (k2 (some (t7, h14)) fun t70 h16 =>
    k2 (vBin .add .other t70 (.int .i64 1) h16) fun t71 h17 =>
    k2 (some (t71, h17)) fun t7_18 h19 =>
    lp X [p2, p3, p4, p7] c_cabotageref22_formula_2 (kBlk 1 (kSeq X c_cabotageref22_formula_1 [] (K_cabotageref22_formula_1 X))) [t2, t3, t4, t7_18] h19))
      (sh X c_cabotageref22_formula_1 (K_cabotageref22_formula_1 X) (setL [] []) h5) := by kernel_rfl
theorem l_cabotageref22_formula_2 (F : FuncId → Option CFunc) (t2 t3 t4 t7 : Value) (h : H) {r : Out} : let X := rI F; sh X c_cabotageref22_formula_2 (K_cabotageref22_formula_2 X) (setL [p2, p3, p4, p7] [t2, t3, t4, t7]) h = some r → lp X [p2, p3, p4, p7] c_cabotageref22_formula_2 (kBlk 1 (kSeq X c_cabotageref22_formula_1 [] (K_cabotageref22_formula_1 X))) [t2, t3, t4, t7] h = some r := fun hv => lp_step (by decide) hv
theorem s_cabotageref22_formula_0 (X : Rn) (t2 t3 t4 : Value) (h : H) : sh X c_cabotageref22_formula_0 (K_cabotageref22_formula_0 X) (setL [p2, p3, p4] [t2, t3, t4]) h =
    k2 (some ((.int .i64 0), h)) fun t7 h1 =>
    lp X [p2, p3, p4, p7] c_cabotageref22_formula_2 (kBlk 1 (kSeq X c_cabotageref22_formula_1 [] (K_cabotageref22_formula_1 X))) [t2, t3, t4, t7] h1 := by kernel_rfl
theorem s_cabotageref22_formula (X : Rn) (t0 t1 t2 : Value) (h : H) : shFunc X 3 f_cabotageref22_formula [t0, t1, t2] h =
    k2 (some (newPtr h (cellsL t0))) fun t3 h1 =>
    k2 (some (newPtr h1 (cellsL t1))) fun t4 h2 =>
    k2 (some ((.bool false), h2)) fun t6 h3 =>
    k2 (some (t2, h3)) fun t8 h4 =>
    k2 (some (t2, h4)) fun t9 h5 =>
    k2 (vNil t9 h5) fun t10 h6 =>
    k2 (vLoad1 t10 h6) fun t11 h7 =>
    k2 (vBin .sub .other t11 (.int .i64 1) h7) fun t12 h8 =>
    k2 (vNil t8 h8) fun t13 h9 =>
    k2 (vStore 1 t13 t12 h9) fun _ h10 =>
    k2 (some (t2, h10)) fun t14 h11 =>
    k2 (vNil t14 h11) fun t15 h12 =>
    k2 (vLoad1 t15 h12) fun t16 h13 =>
    k2 (vBin .lss .other t16 (.int .i64 0) h13) fun t17 h14 =>
    br t17
      (k2 (some ((.bool false), h14)) fun t6 h15 =>
    some (.val (tupleOf [t6]) h15))
      (k2 (vField 0 t4 h14) fun t18 h16 =>
    k2 (vLoad1 t18 h16) fun t19 h17 =>
    k2 (vBin .eql .other t19 (.int .i64 1) h17) fun t21 h18 =>
    k2 (some (t21, h18)) fun t20 h19 =>
    br t20
      (k2 (vField 2 t4 h19) fun t22 h20 =>
    k2 (vLoad1 t22 h20) fun t23 h21 =>
    k2 (bltV h21 .len [t23]) fun t24 h22 =>
    k2 (vBin .eql .other t24 (.int .i64 0) h22) fun t25 h23 =>
    k2 (some (t25, h23)) fun t26 h24 =>
    k2 (gd t26 true h24 (vField 1 t4 h24)) fun t27 h25 =>
    k2 (gd t26 true h25 (vLoad1 t27 h25)) fun t28 h26 =>
    k2 (gd t26 true h26 (vBin .eql .other t28 (.int .i64 0) h26)) fun t29 h27 =>
    k2 (vPick t26 t29 (.bool false) h27) fun t30 h28 =>
    k2 (some (t30, h28)) fun t6 h29 =>
    some (.val (tupleOf [t6]) h29))
      (k2 (vBin .eql .other t19 (.int .i64 2) h19) fun t32 h30 =>
    k2 (some (t32, h30)) fun t31 h31 =>
    br t31
      (k2 (vField 2 t4 h31) fun t33 h32 =>
    k2 (vLoad1 t33 h32) fun t34 h33 =>
    k2 (bltV h33 .len [t34]) fun t35 h34 =>
    k2 (vBin .neq .other t35 (.int .i64 1) h34) fun t36 h35 =>
    k2 (some (t36, h35)) fun t37 h36 =>
    k2 (gd t37 false h36 (vField 1 t4 h36)) fun t38 h37 =>
    k2 (gd t37 false h37 (vLoad1 t38 h37)) fun t39 h38 =>
    k2 (gd t37 false h38 (vBin .neq .other t39 (.int .i64 0) h38)) fun t40 h39 =>
    k2 (vPick t37 (.bool true) t40 h39) fun t41 h40 =>
    br t41
      (k2 (some ((.bool false), h40)) fun t6 h41 =>
    some (.val (tupleOf [t6]) h41))
      (sh X c_cabotageref22_formula_0 (K_cabotageref22_formula_0 X) (setL [p2, p3, p4] [t2, t3, t4]) h40))
      (k2 (vBin .eql .other t19 (.int .i64 3) h31) fun t43 h42 =>
    k2 (some (t43, h42)) fun t42 h43 =>
    br t42
      (k2 (vField 1 t4 h43) fun t44 h44 =>
    k2 (vLoad1 t44 h44) fun t45 h45 =>
    k2 (vBin .neq .other t45 (.int .i64 0) h45) fun t46 h46 =>
    br t46
      (k2 (some ((.bool false), h46)) fun t6 h47 =>
    some (.val (tupleOf [t6]) h47))
      (sh X c_cabotageref22_formula_0 (K_cabotageref22_formula_0 X) (setL [p2, p3, p4] [t2, t3, t4]) h46))
      (k2 (vBin .eql .other t19 (.int .i64 4) h43) fun t48 h48 =>
    k2 (some (t48, h48)) fun t47 h49 =>
    br t47
      (k2 (vField 2 t4 h49) fun t49 h50 =>
    k2 (vLoad1 t49 h50) fun t50 h51 =>
    k2 (bltV h51 .len [t50]) fun t51 h52 =>
    k2 (vBin .neq .other t51 (.int .i64 1) h52) fun t52 h53 =>
    k2 (some (t52, h53)) fun t53 h54 =>
    k2 (gd t53 false h54 (vField 1 t4 h54)) fun t54 h55 =>
    k2 (gd t53 false h55 (vLoad1 t54 h55)) fun t55 h56 =>
    k2 (gd t53 false h56 (vBin .lss .other t55 (.int .i64 0) h56)) fun t56 h57 =>
    k2 (vPick t53 (.bool true) t56 h57) fun t57 h58 =>
    k2 (some (t57, h58)) fun t58 h59 =>
    k2 (gd t58 false h59 (vField 1 t4 h59)) fun t59 h60 =>
    k2 (gd t58 false h60 (vLoad1 t59 h60)) fun t60 h61 =>
    k2 (gd t58 false h61 (vField 1 t3 h61)) fun t61 h62 =>
    k2 (gd t58 false h62 (vLoad1 t61 h62)) fun t62 h63 =>
    k2 (gd t58 false h63 (vBin .geq .other t60 t62 h63)) fun t63 h64 =>
    k2 (vPick t58 (.bool true) t63 h64) fun t64 h65 =>
    br t64
      (k2 (some ((.bool false), h65)) fun t6 h66 =>
    some (.val (tupleOf [t6]) h66))
      (sh X c_cabotageref22_formula_0 (K_cabotageref22_formula_0 X) (setL [p2, p3, p4] [t2, t3, t4]) h65))
      (k2 (some ((.bool false), h49)) fun t6 h67 =>
    some (.val (tupleOf [t6]) h67)))))) := by kernel_rfl
theorem s_cabotageref22_holdsIn_2 (X : Rn) (t5 : Value) (h : H) : sh X c_cabotageref22_holdsIn_2 (K_cabotageref22_holdsIn_2 X) (setL [p5] [t5]) h =
    k2 (some (t5, h)) fun t109 h1 =>
    k2 (some (t109, h1)) fun t4 h2 =>
    some (.val (tupleOf [t4]) h2) := by kernel_rfl
theorem s_cabotageref22_holdsIn_4 (X : Rn) (t2 t3 t5 t7 : Value) (h : H) : sh X c_cabotageref22_holdsIn_4 (K_cabotageref22_holdsIn_4 X) (setL [p2, p3, p5, p7] [t2, t3, t5, t7]) h =
    k2 (some (t7, h)) fun t29 h1 =>
    k2 (vBin .add .other t29 (.int .i64 1) h1) fun t30 h2 =>
    k2 (some (t30, h2)) fun t7_3 h4 =>
    lp X [p2, p3, p5, p7] c_cabotageref22_holdsIn_3 (kBlk 2 (kSeq X c_cabotageref22_holdsIn_2 [p5] (K_cabotageref22_holdsIn_2 X))) [t2, t3, t5, t7_3] h4 := by kernel_rfl
theorem s_cabotageref22_holdsIn_9 (X : Rn) (t2 t3 t5 t7 t8 t10 : Value) (h : H) : sh X c_cabotageref22_holdsIn_9 (K_cabotageref22_holdsIn_9 X) (setL [p2, p3, p5, p7, p8, p10] [t2, t3, t5, t7, t8, t10]) h =
    k2 (some (t10, h)) fun t86 h1 =>
    k2 (vBin .add .other t86 (.int .i64 1) h1) fun t87 h2 =>
    k2 (some (t87, h2)) fun t10_3 h4 =>
    lp X [p2, p3, p5, p7, p8, p10] c_cabotageref22_holdsIn_8 (kBlk 7 (K_cabotageref22_holdsIn_5 X)) [t2, t3, t5, t7, t8, t10_3] h4 := by kernel_rfl
theorem s_cabotageref22_holdsIn_8 (X : Rn) (t2 t3 t5 t7 t8 t10 : Value) (h : H) : sh X c_cabotageref22_holdsIn_8 (K_cabotageref22_holdsIn_8 X) (setL [p2, p3, p5, p7, p8, p10] [t2, t3, t5, t7, t8, t10]) h =
    k2 (some (t10, h)) fun t76 h1 =>
    k2 (vField 2 t2 h1) fun t77 h2 =>
    k2 (vLoad1 t77 h2) fun t78 h3 =>
    k2 (bltV h3 .len [t78]) fun t79 h4 =>
    k2 (vBin .lss .other t76 t79 h4) fun t80 h5 =>
    k2 (some (t80, h5)) fun t81 h6 =>
    k2 (gd t81 true h6 (vField 0 t3 h6)) fun t82 h7 =>
    k2 (gd t81 true h7 (vLoad1 t82 h7)) fun t83 h8 =>
    k2 (gd t81 true h8 (vBin .eql .other t83 (.int .i64 4) h8)) fun t84 h9 =>
    k2 (vPick t81 t84 (.bool false) h9) fun t85 h10 =>
    br t85
      (k2 (vField 2 t2 h10) fun t88 h11 =>
    k2 (vLoad1 t88 h11) fun t89 h12 =>
    k2 (some (t10, h12)) fun t90 h13 =>
    k2 (vIndex 3 t89 t90 h13) fun t91 h14 =>
    k2 (vLoadN 3 t91 h14) fun t92 h15 =>
    k2 (some (newPtr h15 [(.int .i64 0), (.int .i64 0), (.int .i64 0)])) fun t11 h16 =>
    k2 (vStore 3 t11 t92 h16) fun _ h17 =>
    k2 (vField 2 t11 h17) fun t93 h18 =>
    k2 (vLoad1 t93 h18) fun t94 h19 =>
    k2 (vField 1 t3 h19) fun t95 h20 =>
    k2 (vLoad1 t95 h20) fun t96 h21 =>
    k2 (vBin .eql .other t94 t96 h21) fun t97 h22 =>
    k2 (some (t97, h22)) fun t98 h23 =>
    k2 (gd t98 true h23 (some (t8, h23))) fun t99 h24 =>
    k2 (gd t98 true h24 (vField 1 t11 h24)) fun t100 h25 =>
    k2 (gd t98 true h25 (vLoad1 t100 h25)) fun t101 h26 =>
    k2 (gd t98 true h26 (vIndex 1 t99 t101 h26)) fun t102 h27 =>
    k2 (gd t98 true h27 (vLoad1 t102 h27)) fun t103 h28 =>
    k2 (vPick t98 t103 (.bool false) h28) fun t104 h29 =>
    br t104
      (k2 (some (t5, h29)) fun t105 h30 =>
    k2 (vField 0 t11 h30) fun t106 h31 =>
    k2 (vLoad1 t106 h31) fun t107 h32 =>
    k2 (vIndex 1 t105 t107 h32) fun t108 h33 =>
    k2 (vStore 1 t108 (.bool true) h33) fun _ h34 =>
    sh X c_cabotageref22_holdsIn_9 (K_cabotageref22_holdsIn_9 X) (setL [p2, p3, p5, p7, p8, p10] [t2, t3, t5, t7, t8, t10]) h34)
      (sh X c_cabotageref22_holdsIn_9 (K_cabotageref22_holdsIn_9 X) (setL [p2, p3, p5, p7, p8, p10] [t2, t3, t5, t7, t8, t10]) h29))
      (sh X c_cabotageref22_holdsIn_4 (K_cabotageref22_holdsIn_4 X) (setL [p2, p3, p5, p7] [t2, t3, t5, t7]) h10) := by kernel_rfl
theorem l_cabotageref22_holdsIn_8 (F : FuncId → Option CFunc) (t2 t3 t5 t7 t8 t10 : Value) (h : H) {r : Out} : let X := rI F; sh X c_cabotageref22_holdsIn_8 (K_cabotageref22_holdsIn_8 X) (setL [p2, p3, p5, p7, p8, p10] [t2, t3, t5, t7, t8, t10]) h = some r → lp X [p2, p3, p5, p7, p8, p10] c_cabotageref22_holdsIn_8 (kBlk 7 (K_cabotageref22_holdsIn_5 X)) [t2, t3, t5, t7, t8, t10] h = some r := fun hv => lp_step (by decide) hv
theorem s_cabotageref22_holdsIn_5 (X : Rn) (t2 t3 t5 t7 t8 : Value) (h : H) : sh X c_cabotageref22_holdsIn_5 (K_cabotageref22_holdsIn_5 X) (setL [p2, p3, p5, p7, p8] [t2, t3, t5, t7, t8]) h =
    k2 (some ((.int .i64 0), h)) fun t10 h1 =>
    lp X [p2, p3, p5, p7, p8, p10] c_cabotageref22_holdsIn_8 (kBlk 7 (K_cabotageref22_holdsIn_5 X)) [t2, t3, t5, t7, t8, t10] h1 := by kernel_rfl
theorem s_cabotageref22_holdsIn_7 (X : Rn) (t2 t3 t5 t7 t8 t9 : Value) (h : H) : sh X c_cabotageref22_holdsIn_7 (K_cabotageref22_holdsIn_7 X) (setL [p2, p3, p5, p7, p8, p9] [t2, t3, t5, t7, t8, t9]) h =
    k2 (some (t9, h)) fun t42 h1 =>
    k2 (vBin .add .other t42 (.int .i64 1) h1) fun t43 h2 =>
    k2 (some (t43, h2)) fun t9_3 h4 =>
    lp X [p2, p3, p5, p7, p8, p9] c_cabotageref22_holdsIn_6 (kBlk 4 (kSeq X c_cabotageref22_holdsIn_5 [p2, p3, p5, p7, p8] (K_cabotageref22_holdsIn_5 X))) [t2, t3, t5, t7, t8, t9_3] h4 := by kernel_rfl
theorem s_cabotageref22_holdsIn_6 (X : Rn) (t2 t3 t5 t7 t8 t9 : Value) (h : H) : sh X c_cabotageref22_holdsIn_6 (K_cabotageref22_holdsIn_6 X) (setL [p2, p3, p5, p7, p8, p9] [t2, t3, t5, t7, t8, t9]) h =
    k2 (some (t9, h)) fun t38 h1 =>
    k2 (some (t5, h1)) fun t39 h2 =>
    k2 (bltV h2 .len [t39]) fun t40 h3 =>
    k2 (vBin .lss .other t38 t40 h3) fun t41 h4 =>
    br t41
      (k2 (vField 0 t3 h4) fun t44 h5 =>
    k2 (vLoad1 t44 h5) fun t45 h6 =>
    k2 (vBin .eql .other t45 (.int .i64 2) h6) fun t47 h7 =>
    k2 (some (t47, h7)) fun t46 h8 =>
    br t46
      (k2 (some (t5, h8)) fun t48 h9 =>
    k2 (some (t9, h9)) fun t49 h10 =>
    k2 (some (t8, h10)) fun t50 h11 =>
    k2 (some (t9, h11)) fun t51 h12 =>
    k2 (vIndex 1 t50 t51 h12) fun t52 h13 =>
    k2 (vLoad1 t52 h13) fun t53 h14 =>
    k2 (vUn .not t53 h14) fun t54 h15 =>
    k2 (vIndex 1 t48 t49 h15) fun t55 h16 =>
    k2 (vStore 1 t55 t54 h16) fun _ h17 =>
    sh X c_cabotageref22_holdsIn_7 (K_cabotageref22_holdsIn_7 X) (setL [p2, p3, p5, p7, p8, p9] [t2, t3, t5, t7, t8, t9]) h17)
      (k2 (vBin .eql .other t45 (.int .i64 3) h8) fun t57 h18 =>
    k2 (some (t57, h18)) fun t56 h19 =>
    br t56
      (k2 (some (t5, h19)) fun t58 h20 =>
    k2 (some (t9, h20)) fun t59 h21 =>
    k2 (some (t5, h21)) fun t60 h22 =>
    k2 (some (t9, h22)) fun t61 h23 =>
    k2 (vIndex 1 t60 t61 h23) fun t62 h24 =>
    k2 (vLoad1 t62 h24) fun t63 h25 =>
    k2 (some (t63, h25)) fun t64 h26 =>
    k2 (gd t64 true h26 (some (t8, h26))) fun t65 h27 =>
    k2 (gd t64 true h27 (some (t9, h27))) fun t66 h28 =>
    k2 (gd t64 true h28 (vIndex 1 t65 t66 h28)) fun t67 h29 =>
    k2 (gd t64 true h29 (vLoad1 t67 h29)) fun t68 h30 =>
    k2 (vPick t64 t68 (.bool false) h30) fun t69 h31 =>
    k2 (vIndex 1 t58 t59 h31) fun t70 h32 =>
    k2 (vStore 1 t70 t69 h32) fun _ h33 =>
    sh X c_cabotageref22_holdsIn_7 (K_cabotageref22_holdsIn_7 X) (setL [p2, p3, p5, p7, p8, p9] [t2, t3, t5, t7, t8, t9]) h33)
      (k2 (vBin .eql .other t45 (.int .i64 4) h19) fun t72 h34 =>
    k2 (some (t72, h34)) fun t71 h35 =>
    br t71
      (k2 (some (t5, h35)) fun t73 h36 =>
    k2 (some (t9, h36)) fun t74 h37 =>
    k2 (vIndex 1 t73 t74 h37) fun t75 h38 =>
    k2 (vStore 1 t75 (.bool false) h38) fun _ h39 =>
    sh X c_cabotageref22_holdsIn_7 (K_cabotageref22_holdsIn_7 X) (setL [p2, p3, p5, p7, p8, p9] [t2, t3, t5, t7, t8, t9]) h39)
      (sh X c_cabotageref22_holdsIn_7 (K_cabotageref22_holdsIn_7 X) (setL [p2, p3, p5, p7, p8, p9] [t2, t3, t5, t7, t8, t9]) h35))))
      (sh X c_cabotageref22_holdsIn_5 (K_cabotageref22_holdsIn_5 X) (setL [p2, p3, p5, p7, p8] [t2, t3, t5, t7, t8]) h4) := by kernel_rfl
theorem l_cabotageref22_holdsIn_6 (F : FuncId → Option CFunc) (t2 t3 t5 t7 t8 t9 : Value) (h : H) {r : Out} : let X := rI F; sh X c_cabotageref22_holdsIn_6 (K_cabotageref22_holdsIn_6 X) (setL [p2, p3, p5, p7, p8, p9] [t2, t3, t5, t7, t8, t9]) h = some r → lp X [p2, p3, p5, p7, p8, p9] c_cabotageref22_holdsIn_6 (kBlk 4 (kSeq X c_cabotageref22_holdsIn_5 [p2, p3, p5, p7, p8] (K_cabotageref22_holdsIn_5 X))) [t2, t3, t5, t7, t8, t9] h = some r := fun hv => lp_step (by decide) hv
theorem s_cabotageref22_holdsIn_3 (X : Rn) (t2 t3 t5 t7 : Value) (h : H) : sh X c_cabotageref22_holdsIn_3 (K_cabotageref22_holdsIn_3 X) (setL [p2, p3, p5, p7] [t2, t3, t5, t7]) h =
    k2 (some (t7, h)) fun t24 h1 =>
    k2 (vField 2 t3 h1) fun t25 h2 =>
    k2 (vLoad1 t25 h2) fun t26 h3 =>
    k2 (bltV h3 .len [t26]) fun t27 h4 =>
    k2 (vBin .lss .other t24 t27 h4) fun t28 h5 =>
    br t28
      (k2 (rdF (fun b => vLoadN 3 t2 b) 0 h5 [(0, h5)]) fun t31 h6 =>
    k2 (vField 2 t3 h6) fun t32 h7 =>
    k2 (rdF (fun b => vLoad1 t32 b) 0 h7 [(0, h5)]) fun t33 h8 =>
    k2 (some (t7, h8)) fun t34 h9 =>
    k2 (vIndex 3 t33 t34 h9) fun t35 h10 =>
    k2 (rdF (fun b => vLoadN 3 t35 b) 0 h10 [(0, h5)]) fun t36 h11 =>
    k2 (X.call (.func (.func n_cabotageref22_holdsIn) #[] #[]) [t31, t36] h11) fun t37 h12 =>
    k2 (some (t37, h12)) fun t8 h13 =>
    k2 (some ((.int .i64 0), h13)) fun t9 h14 =>
    lp X [p2, p3, p5, p7, p8, p9] c_cabotageref22_holdsIn_6 (kBlk 4 (kSeq X c_cabotageref22_holdsIn_5 [p2, p3, p5, p7, p8] (K_cabotageref22_holdsIn_5 X))) [t2, t3, t5, t7, t8, t9] h14)
      (sh X c_cabotageref22_holdsIn_2 (K_cabotageref22_holdsIn_2 X) (setL [p5] [t5]) h5) := by kernel_rfl
theorem l_cabotageref22_holdsIn_3 (F : FuncId → Option CFunc) (t2 t3 t5 t7 : Value) (h : H) {r : Out} : let X := rI F; sh X c_cabotageref22_holdsIn_3 (K_cabotageref22_holdsIn_3 X) (setL [p2, p3, p5, p7] [t2, t3, t5, t7]) h = some r → lp X [p2, p3, p5, p7] c_cabotageref22_holdsIn_3 (kBlk 2 (kSeq X c_cabotageref22_holdsIn_2 [p5] (K_cabotageref22_holdsIn_2 X))) [t2, t3, t5, t7] h = some r := fun hv => lp_step (by decide) hv
theorem s_cabotageref22_holdsIn_0 (X : Rn) (t2 t3 t5 : Value) (h : H) : sh X c_cabotageref22_holdsIn_0 (K_cabotageref22_holdsIn_0 X) (setL [p2, p3, p5] [t2, t3, t5]) h =
    k2 (some ((.int .i64 0), h)) fun t7 h1 =>
    lp X [p2, p3, p5, p7] c_cabotageref22_holdsIn_3 (kBlk 2 (kSeq X c_cabotageref22_holdsIn_2 [p5] (K_cabotageref22_holdsIn_2 X))) [t2, t3, t5, t7] h1 := by kernel_rfl
theorem s_cabotageref22_holdsIn_1 (X : Rn) (t2 t3 t5 t6 : Value) (h : H) : sh X c_cabotageref22_holdsIn_1 (K_cabotageref22_holdsIn_1 X) (setL [p2, p3, p5, p6] [t2, t3, t5, t6]) h =
    k2 (some (t6, h)) fun t15 h1 =>
    k2 (some (t5, h1)) fun t16 h2 =>
    k2 (bltV h2 .len [t16]) fun t17 h3 =>
    k2 (vBin .lss .other t15 t17 h3) fun t18 h4 =>
    br t18
      (k2 (some (t5, h4)) fun t21 h5 =>
    k2 (some (t6, h5)) fun t22 h6 =>
    k2 (vIndex 1 t21 t22 h6) fun t23 h7 =>
    k2 (vStore 1 t23 (.bool true) h7) fun _ h8 =>
    k2 (some (t6, h8)) fun t19 h9 =>
    k2 (vBin .add .other t19 (.int .i64 1) h9) fun t20 h10 =>
    k2 (some (t20, h10)) fun t6_11 h12 =>
    lp X [p2, p3, p5, p6] c_cabotageref22_holdsIn_1 (kBlk 0 (kSeq X c_cabotageref22_holdsIn_0 [p2, p3, p5] (K_cabotageref22_holdsIn_0 X))) [t2, t3, t5, t6_11] h12)
      (sh X c_cabotageref22_holdsIn_0 (K_cabotageref22_holdsIn_0 X) (setL [p2, p3, p5] [t2, t3, t5]) h4) := by kernel_rfl
theorem l_cabotageref22_holdsIn_1 (F : FuncId → Option CFunc) (t2 t3 t5 t6 : Value) (h : H) {r : Out} : let X := rI F; sh X c_cabotageref22_holdsIn_1 (K_cabotageref22_holdsIn_1 X) (setL [p2, p3, p5, p6] [t2, t3, t5, t6]) h = some r → lp X [p2, p3, p5, p6] c_cabotageref22_holdsIn_1 (kBlk 0 (kSeq X c_cabotageref22_holdsIn_0 [p2, p3, p5] (K_cabotageref22_holdsIn_0 X))) [t2, t3, t5, t6] h = some r := fun hv => lp_step (by decide) hv
theorem s_cabotageref22_holdsIn (X : Rn) (t0 t1 : Value) (h : H) : shFunc X 2 f_cabotageref22_holdsIn [t0, t1] h =
    k2 (some (newPtr h (cellsL t0))) fun t2 h1 =>
    k2 (some (newPtr h1 (cellsL t1))) fun t3 h2 =>
    k2 (some ((.slice none 0 0), h2)) fun t4 h3 =>
    k2 (vField 0 t2 h3) fun t12 h4 =>
    k2 (vLoad1 t12 h4) fun t13 h5 =>
    k2 (makeSliceV 1 [(.bool false)] h5 t13 t13) fun t14 h6 =>
    k2 (some (t14, h6)) fun t5 h7 =>
    k2 (some ((.int .i64 0), h7)) fun t6 h8 =>
    lp X [p2, p3, p5, p6] c_cabotageref22_holdsIn_1 (kBlk 0 (kSeq X c_cabotageref22_holdsIn_0 [p2, p3, p5] (K_cabotageref22_holdsIn_0 X))) [t2, t3, t5, t6] h8 := by kernel_rfl
theorem s_judge_classes_0 (X : Rn) (t4 : Value) (h : H) : sh X c_judge_classes_0 (K_judge_classes_0 X) (setL [p4] [t4]) h =
    k2 (some (t4, h)) fun t50 h1 =>
    k2 (some (t50, h1)) fun t2 h2 =>
    some (.val (tupleOf [t2]) h2) := by kernel_rfl
theorem s_judge_classes_2 (X : Rn) (t3 t4 t5 t14 t15 : Value) (h : H) : sh X c_judge_classes_2 (K_judge_classes_2 X) (setL [p3, p4, p5, p14, p15] [t3, t4, t5, t14, t15]) h =
    k2 (vBin .add .other t15 (.int .i64 1) h) fun t49 h1 =>
    k2 (some (t49, h1)) fun t15_2 h3 =>
    lp X [p3, p4, p5, p14, p15] c_judge_classes_1 (kBlk 0 (kSeq X c_judge_classes_0 [p4] (K_judge_classes_0 X))) [t3, t4, t5, t14, t15_2] h3 := by kernel_rfl
theorem s_judge_classes_3 (X : Rn) (t3 t4 t5 t6 t14 t15 : Value) (h : H) : sh X c_judge_classes_3 (K_judge_classes_3 X) (setL [p3, p4, p5, p6, p14, p15] [t3, t4, t5, t6, t14, t15]) h =
    k2 (some (t4, h)) fun t40 h1 =>
    k2 (some (t5, h1)) fun t41 h2 =>
    k2 (bltV h2 .len [t41]) fun t42 h3 =>
    k2 (vSlice 1 (fillL (repeatL [(.int .i64 0)] 1) [(0 * 1, 1, t42)]) h3) fun t43 h4 =>
    k2 (bltV h4 (.append 1 8) [t40, t43]) fun t44 h5 =>
    k2 (some (t44, h5)) fun t4_6 h7 =>
    k2 (some (t5, h7)) fun t45 h8 =>
    k2 (some (t6, h8)) fun t46 h9 =>
    k2 (vSlice 1 (fillL (repeatL [(.int .i64 0)] 1) [(0 * 1, 1, t46)]) h9) fun t47 h10 =>
    k2 (bltV h10 (.append 1 8) [t45, t47]) fun t48 h11 =>
    k2 (some (t48, h11)) fun t5_12 h13 =>
    sh X c_judge_classes_2 (K_judge_classes_2 X) (setL [p3, p4, p5, p14, p15] [t3, t4_6, t5_12, t14, t15]) h13 := by kernel_rfl
theorem s_judge_classes_4 (X : Rn) (t3 t4 t5 t6 t14 t15 t18 t19 t20 : Value) (h : H) : sh X c_judge_classes_4 (K_judge_classes_4 X) (setL [p3, p4, p5, p6, p14, p15, p18, p19, p20] [t3, t4, t5, t6, t14, t15, t18, t19, t20]) h =
    k2 (vBin .lss .other t20 t19 h) fun t21 h1 =>
    br t21
      (k2 (some (t20, h1)) fun t22 h2 =>
    k2 (vIndex 1 t18 t20 h2) fun t23 h3 =>
    k2 (vLoad1 t23 h3) fun t24 h4 =>
    k2 (some (t22, h4)) fun t7 h5 =>
    k2 (some (t24, h5)) fun t8 h6 =>
    k2 (some (t3, h6)) fun t26 h7 =>
    k2 (some (t8, h7)) fun t27 h8 =>
    k2 (some (t6, h8)) fun t28 h9 =>
    k2 ((fillL [(.int .i64 0), (.int .i64 0)] [(0, 1, t27), (1, 1, t28)]).map fun c => (Value.agg ⟨c⟩, h9)) fun t29 h10 =>
    k2 (vLookup (.leaves [0, 1]) (.int .i64 0) true t26 t29 h10) fun t30 h11 =>
    k2 (some (t30, h11)) fun t25 h12 =>
    k2 (vExtract 0 t25 h12) fun t31 h13 =>
    k2 (vExtract 1 t25 h13) fun t32 h14 =>
    k2 (some (t31, h14)) fun t9 h15 =>
    k2 (some (t32, h15)) fun t10 h16 =>
    k2 (some (t10, h16)) fun t33 h17 =>
    k2 (vUn .not t33 h17) fun t34 h18 =>
    br t34
      (k2 (some (t4, h18)) fun t35 h19 =>
    k2 (some (t7, h19)) fun t36 h20 =>
    k2 (vSlice 1 (fillL (repeatL [(.int .i64 0)] 1) [(0 * 1, 1, t36)]) h20) fun t37 h21 =>
    k2 (bltV h21 (.append 1 8) [t35, t37]) fun t38 h22 =>
    k2 (some (t38, h22)) fun t4_23 h24 =>
    sh X c_judge_classes_2 (K_judge_classes_2 X) (setL [p3, p4, p5, p14, p15] [t3, t4_23, t5, t14, t15]) h24)
      (k2 (vBin .add .other t20 (.int .i64 1) h18) fun t39 h25 =>
    k2 (some (t39, h25)) fun t20_26 h27 =>
    lp X [p3, p4, p5, p6, p14, p15, p18, p19, p20] c_judge_classes_4 (kBlk 2 (kSeq X c_judge_classes_3 [p3, p4, p5, p6, p14, p15] (K_judge_classes_3 X))) [t3, t4, t5, t6, t14, t15, t18, t19, t20_26] h27))
      (sh X c_judge_classes_3 (K_judge_classes_3 X) (setL [p3, p4, p5, p6, p14, p15] [t3, t4, t5, t6, t14, t15]) h1) := by kernel_rfl
theorem l_judge_classes_4 (F : FuncId → Option CFunc) (t3 t4 t5 t6 t14 t15 t18 t19 t20 : Value) (h : H) {r : Out} : let X := rI F; sh X c_judge_classes_4 (K_judge_classes_4 X) (setL [p3, p4, p5, p6, p14, p15, p18, p19, p20] [t3, t4, t5, t6, t14, t15, t18, t19, t20]) h = some r → lp X [p3, p4, p5, p6, p14, p15, p18, p19, p20] c_judge_classes_4 (kBlk 2 (kSeq X c_judge_classes_3 [p3, p4, p5, p6, p14, p15] (K_judge_classes_3 X))) [t3, t4, t5, t6, t14, t15, t18, t19, t20] h = some r := fun hv => lp_step (by decide) hv
theorem s_judge_classes_1 (X : Rn) (t3 t4 t5 t14 t15 : Value) (h : H) : sh X c_judge_classes_1 (K_judge_classes_1 X) (setL [p3, p4, p5, p14, p15] [t3, t4, t5, t14, t15]) h =
    k2 (vBin .lss .other t15 t14 h) fun t16 h1 =>
    br t16
      (k2 (some (t15, h1)) fun t17 h2 =>
    k2 (some (t17, h2)) fun t6 h3 =>
    k2 (some (t5, h3)) fun t18 h4 =>
    k2 (bltV h4 .len [t18]) fun t19 h5 =>
    k2 (some ((.int .i64 0), h5)) fun t20 h6 =>
    lp X [p3, p4, p5, p6, p14, p15, p18, p19, p20] c_judge_classes_4 (kBlk 2 (kSeq X c_judge_classes_3 [p3, p4, p5, p6, p14, p15] (K_judge_classes_3 X))) [t3, t4, t5, t6, t14, t15, t18, t19, t20] h6)
      (sh X c_judge_classes_0 (K_judge_classes_0 X) (setL [p4] [t4]) h1) := by kernel_rfl
theorem l_judge_classes_1 (F : FuncId → Option CFunc) (t3 t4 t5 t14 t15 : Value) (h : H) {r : Out} : let X := rI F; sh X c_judge_classes_1 (K_judge_classes_1 X) (setL [p3, p4, p5, p14, p15] [t3, t4, t5, t14, t15]) h = some r → lp X [p3, p4, p5, p14, p15] c_judge_classes_1 (kBlk 0 (kSeq X c_judge_classes_0 [p4] (K_judge_classes_0 X))) [t3, t4, t5, t14, t15] h = some r := fun hv => lp_step (by decide) hv
theorem s_judge_classes (X : Rn) (t0 : Value) (h : H) : shFunc X 1 f_judge_classes [t0] h =
    k2 (some (newPtr h (cellsL t0))) fun t1 h1 =>
    k2 (some ((.slice none 0 0), h1)) fun t2 h2 =>
    k2 (vLoadN 3 t1 h2) fun t11 h3 =>
    k2 (X.call (.func (.func n_judge_apart) #[] #[]) [t11] h3) fun t12 h4 =>
    k2 (some (t12, h4)) fun t3 h5 =>
    k2 (some ((.slice none 0 0), h5)) fun t4 h6 =>
    k2 (some ((.slice none 0 0), h6)) fun t5 h7 =>
    k2 (vField 0 t1 h7) fun t13 h8 =>
    k2 (vLoad1 t13 h8) fun t14 h9 =>
    k2 (some ((.int .i64 0), h9)) fun t15 h10 =>
    lp X [p3, p4, p5, p14, p15] c_judge_classes_1 (kBlk 0 (kSeq X c_judge_classes_0 [p4] (K_judge_classes_0 X))) [t3, t4, t5, t14, t15] h10 := by kernel_rfl
theorem s_judge_steps (X : Rn) (t0 t1 : Value) (h : H) : shFunc X 2 f_judge_steps [t0, t1] h =
    k2 (some (newPtr h (cellsL t0))) fun t2 h1 =>
    k2 (some (newPtr h1 (cellsL t1))) fun t3 h2 =>
    k2 (some (.nilFunc, h2)) fun t4 h3 =>
    k2 (some (.func (.func n_judge_steps_1) ⟨[]⟩ ⟨[t2, t3]⟩, h3)) fun t5 h4 =>
    k2 (some (t5, h4)) fun t4 h5 =>
    some (.val (tupleOf [t4]) h5) := by kernel_rfl
theorem s_slices_Contains_int_int_ (X : Rn) (t0 t1 : Value) (h : H) : shFunc X 2 f_slices_Contains_int_int_ [t0, t1] h =
    k2 (some ((.bool false), h)) fun t4 h1 =>
    k2 (some (t0, h1)) fun t5 h2 =>
    k2 (some (t1, h2)) fun t6 h3 =>
    k2 (X.call (.func (.func n_slices_Index_int_int_) #[] #[]) [t5, t6] h3) fun t7 h4 =>
    k2 (vBin .geq .other t7 (.int .i64 0) h4) fun t8 h5 =>
    k2 (some (t8, h5)) fun t4 h6 =>
    some (.val (tupleOf [t4]) h6) := by kernel_rfl
theorem s_cmp_Compare_int_ (X : Rn) (t0 t1 : Value) (h : H) : shFunc X 2 f_cmp_Compare_int_ [t0, t1] h =
    k2 (some ((.int .i64 0), h)) fun t4 h1 =>
    k2 (some (t0, h1)) fun t7 h2 =>
    k2 (X.call (.func (.func n_cmp_isNaN_int_) #[] #[]) [t7] h2) fun t8 h3 =>
    k2 (some (t8, h3)) fun t5 h4 =>
    k2 (some (t1, h4)) fun t9 h5 =>
    k2 (X.call (.func (.func n_cmp_isNaN_int_) #[] #[]) [t9] h5) fun t10 h6 =>
    k2 (some (t10, h6)) fun t6 h7 =>
    k2 (some (t5, h7)) fun t11 h8 =>
    br t11
      (k2 (some (t6, h8)) fun t12 h9 =>
    br t12
      (k2 (some ((.int .i64 0), h9)) fun t4 h10 =>
    some (.val (tupleOf [t4]) h10))
      (k2 (some ((.int .i64 (-1)), h9)) fun t4 h11 =>
    some (.val (tupleOf [t4]) h11)))
      (k2 (some (t6, h8)) fun t13 h12 =>
    br t13
      (k2 (some ((.int .i64 1), h12)) fun t4 h13 =>
    some (.val (tupleOf [t4]) h13))
      (k2 (some (t0, h12)) fun t14 h14 =>
    k2 (some (t1, h14)) fun t15 h15 =>
    k2 (vBin .lss .other t14 t15 h15) fun t16 h16 =>
    br t16
      (k2 (some ((.int .i64 (-1)), h16)) fun t4 h17 =>
    some (.val (tupleOf [t4]) h17))
      (k2 (some (t0, h16)) fun t17 h18 =>
    k2 (some (t1, h18)) fun t18 h19 =>
    k2 (vBin .gtr .other t17 t18 h19) fun t19 h20 =>
    br t19
      (k2 (some ((.int .i64 1), h20)) fun t4 h21 =>
    some (.val (tupleOf [t4]) h21))
      (k2 (some ((.int .i64 0), h20)) fun t4 h22 =>
    some (.val (tupleOf [t4]) h22))))) := by kernel_rfl
theorem s_judge_silent_0 (X : Rn) (t5 : Value) (h : H) : sh X c_judge_silent_0 (K_judge_silent_0 X) (setL [p5] [t5]) h =
    k2 (vLoad1 t5 h) fun t31 h1 =>
    k2 (some (t31, h1)) fun t4 h2 =>
    some (.val (tupleOf [t4]) h2) := by kernel_rfl
theorem s_judge_silent_2 (X : Rn) (t2 t4 t5 t6 : Value) (h : H) : sh X c_judge_silent_2 (K_judge_silent_2 X) (setL [p2, p4, p5, p6] [t2, t4, t5, t6]) h =
    k2 (some (t6, h)) fun t14 h1 =>
    k2 (vBin .add .other t14 (.int .i64 1) h1) fun t15 h2 =>
    k2 (some (t15, h2)) fun t6_3 h4 =>
    lp X [p2, p4, p5, p6] c_judge_silent_1 (kBlk 0 (kSeq X c_judge_silent_0 [p5] (K_judge_silent_0 X))) [t2, t4, t5, t6_3] h4 := by kernel_rfl
theorem s_judge_silent_3 (X : Rn) (l : Nat) (t5 t22 : Value) (h : H) : shRound X r_judge_silent_3 l [t22] (setL [p5] [t5]) h =
    k2 (some (t22, h)) fun t7 h1 =>
    busyK l h1 fun h => sh X c_judge_silent_4 (K_judge_silent_4 X l) (setL [p5, p7, p22] [t5, t7, t22]) h := by kernel_rfl
theorem s_judge_silent_4 (X : Rn) (l : Nat) (t5 t7 t22 : Value) (h : H) : sh X c_judge_silent_4 (K_judge_silent_4 X l) (setL [p5, p7, p22] [t5, t7, t22]) h =
    k2 (vLoad1 t5 h) fun t23 h1 =>
    k2 (some (t7, h1)) fun t24 h2 =>
    k2 (X.call (.func (.func n_slices_Contains_int_int_) #[] #[]) [t23, t24] h2) fun t25 h3 =>
    k2 (vUn .not t25 h3) fun t26 h4 =>
    br t26
      (k2 (vLoad1 t5 h4) fun t27 h5 =>
    k2 (some (t7, h5)) fun t28 h6 =>
    k2 (vSlice 1 (fillL (repeatL [(.int .i64 0)] 1) [(0 * 1, 1, t28)]) h6) fun t29 h7 =>
    k2 (bltV h7 (.append 1 8) [t27, t29]) fun t30 h8 =>
    k2 (vStore 1 t5 t30 h8) fun _ h9 =>
    fin l none h9)
      (fin l none h4) := by kernel_rfl
theorem s_judge_silent_1 (X : Rn) (t2 t4 t5 t6 : Value) (h : H) : sh X c_judge_silent_1 (K_judge_silent_1 X) (setL [p2, p4, p5, p6] [t2, t4, t5, t6]) h =
    k2 (some (t6, h)) fun t10 h1 =>
    k2 (vLoad1 t5 h1) fun t11 h2 =>
    k2 (bltV h2 .len [t11]) fun t12 h3 =>
    k2 (vBin .lss .other t10 t12 h3) fun t13 h4 =>
    br t13
      (k2 (rdF (fun b => vLoadN 3 t2 b) 0 h4 [(0, h4)]) fun t16 h5 =>
    k2 (rdF (fun b => vLoad1 t5 b) 0 h5 [(0, h4)]) fun t17 h6 =>
    k2 (some (t6, h6)) fun t18 h7 =>
    k2 (vIndex 1 t17 t18 h7) fun t19 h8 =>
    k2 (rdF (fun b => vLoad1 t19 b) 0 h8 [(0, h4)]) fun t20 h9 =>
    k2 (X.call (.func (.func n_judge_leads) #[] #[]) [t16, t20, (.int .i64 0)] h9) fun t21 h10 =>
    (isFn t21).bind fun fv => k2 (X.call fv [.func (.yield h10.next) #[] #[]] (h10.new (.loop .ready none (setL [p5] [t5]) r_judge_silent_3))) fun _ h11 =>
    rgP h10.next h11 (fun h12 => sh X c_judge_silent_2 (K_judge_silent_2 X) (setL [p2, p4, p5, p6] [t2, t4, t5, t6]) h12) (fun i h12 => bx i 2 (sh X c_judge_silent_2 (K_judge_silent_2 X) (setL [p2, p4, p5, p6] [t2, t4, t5, t6]) h12) (bx i 1 (sh X c_judge_silent_2 (K_judge_silent_2 X) (setL [p2, p4, p5, p6] [t2, t4, t5, t6]) h12) (bx i 0 (sh X c_judge_silent_0 (K_judge_silent_0 X) (setL [p5] [t5]) h12) (none)))) (fun h12 => some (.val (tupleOf [t4]) h12)))
      (sh X c_judge_silent_0 (K_judge_silent_0 X) (setL [p5] [t5]) h4) := by kernel_rfl
theorem l_judge_silent_1 (F : FuncId → Option CFunc) (t2 t4 t5 t6 : Value) (h : H) {r : Out} : let X := rI F; sh X c_judge_silent_1 (K_judge_silent_1 X) (setL [p2, p4, p5, p6] [t2, t4, t5, t6]) h = some r → lp X [p2, p4, p5, p6] c_judge_silent_1 (kBlk 0 (kSeq X c_judge_silent_0 [p5] (K_judge_silent_0 X))) [t2, t4, t5, t6] h = some r := fun hv => lp_step (by decide) hv
theorem s_judge_silent (X : Rn) (t0 t1 : Value) (h : H) : shFunc X 2 f_judge_silent [t0, t1] h =
    k2 (some (newPtr h (cellsL t0))) fun t2 h1 =>
    k2 (some ((.slice none 0 0), h1)) fun t4 h2 =>
    k2 (some (t1, h2)) fun t8 h3 =>
    k2 (vSlice 1 (fillL (repeatL [(.int .i64 0)] 1) [(0 * 1, 1, t8)]) h3) fun t9 h4 =>
    k2 (some (newPtr h4 [(.slice none 0 0)])) fun t5 h5 =>
    k2 (vStore 1 t5 t9 h5) fun _ h6 =>
    k2 (some ((.int .i64 0), h6)) fun t6 h7 =>
    lp X [p2, p4, p5, p6] c_judge_silent_1 (kBlk 0 (kSeq X c_judge_silent_0 [p5] (K_judge_silent_0 X))) [t2, t4, t5, t6] h7 := by kernel_rfl
theorem s_cmp_Or_int__0 (X : Rn) (t3 : Value) (h : H) : sh X c_cmp_Or_int__0 (K_cmp_Or_int__0 X) (setL [p3] [t3]) h =
    k2 (some (t3, h)) fun t17 h1 =>
    k2 (some (t17, h1)) fun t2 h2 =>
    some (.val (tupleOf [t2]) h2) := by kernel_rfl
theorem s_cmp_Or_int__1 (X : Rn) (t3 t6 t7 t8 : Value) (h : H) : sh X c_cmp_Or_int__1 (K_cmp_Or_int__1 X) (setL [p3, p6, p7, p8] [t3, t6, t7, t8]) h =
    k2 (vBin .lss .other t8 t7 h) fun t9 h1 =>
    br t9
      (k2 (vIndex 1 t6 t8 h1) fun t10 h2 =>
    k2 (vLoad1 t10 h2) fun t11 h3 =>
    k2 (some (t11, h3)) fun t5 h4 =>
    k2 (some (t5, h4)) fun t12 h5 =>
    k2 (some (t3, h5)) fun t13 h6 =>
    k2 (vBin .neq .other t12 t13 h6) fun t14 h7 =>
    br t14
      (k2 (some (t5, h7)) fun t15 h8 =>
    k2 (some (t15, h8)) fun t2 h9 =>
    some (.val (tupleOf [t2]) h9))
      (k2 (vBin .add .other t8 (.int .i64 1) h7) fun t16 h10 =>
    k2 (some (t16, h10)) fun t8_11 h12 =>
    lp X [p3, p6, p7, p8] c_cmp_Or_int__1 (kBlk 0 (kSeq X c_cmp_Or_int__0 [p3] (K_cmp_Or_int__0 X))) [t3, t6, t7, t8_11] h12))
      (sh X c_cmp_Or_int__0 (K_cmp_Or_int__0 X) (setL [p3] [t3]) h1) := by kernel_rfl
theorem l_cmp_Or_int__1 (F : FuncId → Option CFunc) (t3 t6 t7 t8 : Value) (h : H) {r : Out} : let X := rI F; sh X c_cmp_Or_int__1 (K_cmp_Or_int__1 X) (setL [p3, p6, p7, p8] [t3, t6, t7, t8]) h = some r → lp X [p3, p6, p7, p8] c_cmp_Or_int__1 (kBlk 0 (kSeq X c_cmp_Or_int__0 [p3] (K_cmp_Or_int__0 X))) [t3, t6, t7, t8] h = some r := fun hv => lp_step (by decide) hv
theorem s_cmp_Or_int_ (X : Rn) (t0 : Value) (h : H) : shFunc X 1 f_cmp_Or_int_ [t0] h =
    k2 (some ((.int .i64 0), h)) fun t2 h1 =>
    k2 (some ((.int .i64 0), h1)) fun t3 h2 =>
    k2 (some (t0, h2)) fun t6 h3 =>
    k2 (bltV h3 .len [t6]) fun t7 h4 =>
    k2 (some ((.int .i64 0), h4)) fun t8 h5 =>
    lp X [p3, p6, p7, p8] c_cmp_Or_int__1 (kBlk 0 (kSeq X c_cmp_Or_int__0 [p3] (K_cmp_Or_int__0 X))) [t3, t6, t7, t8] h5 := by kernel_rfl
theorem s_judge_rounds_first_0 (X : Rn) (t10 t11 : Value) (h : H) : sh X c_judge_rounds_first_0 (K_judge_rounds_first_0 X) (setL [p10, p11] [t10, t11]) h =
    k2 ((fillL [(.int .i64 0), (.int .i64 0), (.int .i64 0)] []).map fun c => (Value.agg ⟨c⟩, h)) fun t24 h1 =>
    k2 (vStore 3 t10 t24 h1) fun _ h2 =>
    k2 (vStore 1 t11 (.bool false) h2) fun _ h3 =>
    (vRes (some 3) t10 h3).bind fun r0 => (vRes none t11 h3).bind fun r1 => some (.val (tupleOf [r0, r1]) h3) := by kernel_rfl
theorem s_judge_rounds_first_1 (X : Rn) (l : Nat) (t5 t6 t8 t9 t10 t11 t16 : Value) (h : H) : shRound X r_judge_rounds_first_1 l [t16] (setL [p5, p6, p8, p9, p10, p11] [t5, t6, t8, t9, t10, t11]) h =
    k2 (some (newPtr h [(.int .i64 0), (.int .i64 0), (.int .i64 0)])) fun t12 h1 =>
    k2 (vStore 3 t12 t16 h1) fun _ h2 =>
    busyK l h2 fun h => sh X c_judge_rounds_first_2 (K_judge_rounds_first_2 X l) (setL [p5, p6, p8, p9, p10, p11, p12, p16] [t5, t6, t8, t9, t10, t11, t12, t16]) h := by kernel_rfl
theorem s_judge_rounds_first_2 (X : Rn) (l : Nat) (t5 t6 t8 t9 t10 t11 t12 t16 : Value) (h : H) : sh X c_judge_rounds_first_2 (K_judge_rounds_first_2 X l) (setL [p5, p6, p8, p9, p10, p11, p12, p16] [t5, t6, t8, t9, t10, t11, t12, t16]) h =
    k2 (vLoad1 t5 h) fun t17 h1 =>
    k2 (vLoadN 3 t6 h1) fun t18 h2 =>
    k2 (vLoadN 3 t12 h2) fun t19 h3 =>
    k2 (vLoad1 t8 h3) fun t20 h4 =>
    k2 (vLoad1 t9 h4) fun t21 h5 =>
    k2 (X.call (.func (.func n_judge_rounds_told) #[] #[]) [t17, t18, t19, t20, t21] h5) fun t22 h6 =>
    br t22
      (k2 (vLoadN 3 t12 h6) fun t23 h7 =>
    k2 (vStore 3 t10 t23 h7) fun _ h8 =>
    k2 (vStore 1 t11 (.bool true) h8) fun _ h9 =>
    fin l (some .ret) h9)
      (fin l none h6) := by kernel_rfl
theorem s_judge_rounds_first (X : Rn) (t0 t1 t2 t3 t4 : Value) (h : H) : shFunc X 5 f_judge_rounds_first [t0, t1, t2, t3, t4] h =
    k2 (some (newPtr h (cellsL t0))) fun t5 h1 =>
    k2 (some (newPtr h1 (cellsL t1))) fun t6 h2 =>
    k2 (some (newPtr h2 (cellsL t3))) fun t8 h3 =>
    k2 (some (newPtr h3 (cellsL t4))) fun t9 h4 =>
    k2 (some (newPtr h4 [(.int .i64 0), (.int .i64 0), (.int .i64 0)])) fun t10 h5 =>
    k2 (some (newPtr h5 [(.bool false)])) fun t11 h6 =>
    k2 (vLoadN 3 t6 h6) fun t13 h7 =>
    k2 (some (t2, h7)) fun t14 h8 =>
    k2 (X.call (.func (.func n_judge_steps) #[] #[]) [t13, t14] h8) fun t15 h9 =>
    (isFn t15).bind fun fv => k2 (X.call fv [.func (.yield h9.next) #[] #[]] (h9.new (.loop .ready none (setL [p5, p6, p8, p9, p10, p11] [t5, t6, t8, t9, t10, t11]) r_judge_rounds_first_1))) fun _ h10 =>
    rgP h9.next h10 (fun h11 => sh X c_judge_rounds_first_0 (K_judge_rounds_first_0 X) (setL [p10, p11] [t10, t11]) h11) (fun i h11 => bx i 0 (sh X c_judge_rounds_first_0 (K_judge_rounds_first_0 X) (setL [p10, p11] [t10, t11]) h11) (none)) (fun h11 => (vRes (some 3) t10 h11).bind fun r0 => (vRes none t11 h11).bind fun r1 => some (.val (tupleOf [r0, r1]) h11)) := by kernel_rfl
theorem s_judge_leads (X : Rn) (t0 t1 t2 : Value) (h : H) : shFunc X 3 f_judge_leads [t0, t1, t2] h =
    k2 (some (newPtr h (cellsL t0))) fun t3 h1 =>
    k2 (some (newPtr h1 (cellsL t1))) fun t4 h2 =>
    k2 (some (newPtr h2 (cellsL t2))) fun t5 h3 =>
    k2 (some (.nilFunc, h3)) fun t6 h4 =>
    k2 (some (.func (.func n_judge_leads_1) ⟨[]⟩ ⟨[t3, t4, t5]⟩, h4)) fun t7 h5 =>
    k2 (some (t7, h5)) fun t6 h6 =>
    some (.val (tupleOf [t6]) h6) := by kernel_rfl
theorem s_slices_Clone_api_JudgeEdge_api_JudgeEdge_ (X : Rn) (t0 : Value) (h : H) : shFunc X 1 f_slices_Clone_api_JudgeEdge_api_JudgeEdge_ [t0] h =
    k2 (some ((.slice none 0 0), h)) fun t2 h1 =>
    k2 (some (t0, h1)) fun t3 h2 =>
    k2 (vBin .eql .slice t3 (.slice none 0 0) h2) fun t4 h3 =>
    br t4
      (k2 (some ((.slice none 0 0), h3)) fun t2 h4 =>
    some (.val (tupleOf [t2]) h4))
      (k2 (vSlice 0 (fillL (repeatL [(.int .i64 0), (.int .i64 0), (.int .i64 0)] 0) []) h3) fun t5 h5 =>
    k2 (some (t0, h5)) fun t6 h6 =>
    k2 (bltV h6 (.append 3 24) [t5, t6]) fun t7 h7 =>
    k2 (some (t7, h7)) fun t2 h8 =>
    some (.val (tupleOf [t2]) h8)) := by kernel_rfl
theorem s_judge_steps_1_0 (X : Rn) (t0 t2 t18 t19 t20 : Value) (h : H) : sh X c_judge_steps_1_0 (K_judge_steps_1_0 X) (setL [p0, p2, p18, p19, p20] [t0, t2, t18, t19, t20]) h =
    k2 (vBin .lss .other t20 t19 h) fun t21 h1 =>
    br t21
      (k2 (vIndex 3 t18 t20 h1) fun t22 h2 =>
    k2 (vLoadN 3 t22 h2) fun t23 h3 =>
    k2 (some (newPtr h3 [(.int .i64 0), (.int .i64 0), (.int .i64 0)])) fun t7 h4 =>
    k2 (vStore 3 t7 t23 h4) fun _ h5 =>
    k2 (vField 0 t7 h5) fun t24 h6 =>
    k2 (vLoad1 t24 h6) fun t25 h7 =>
    k2 (vLoad1 t2 h7) fun t26 h8 =>
    k2 (vBin .neq .other t25 t26 h8) fun t27 h9 =>
    k2 (some (t27, h9)) fun t28 h10 =>
    k2 (gd t28 false h10 (some (t0, h10))) fun t29 h11 =>
    k2 (gd t28 false h11 (vLoadN 3 t7 h11)) fun t30 h12 =>
    k2 (gd t28 false h12 (X.call t29 [t30] h12)) fun t31 h13 =>
    k2 (gd t28 false h13 (vUn .not t31 h13)) fun t32 h14 =>
    k2 (vPick t28 (.bool true) t32 h14) fun t33 h15 =>
    br t33
      (some (.val (tupleOf []) h15))
      (k2 (vBin .add .other t20 (.int .i64 1) h15) fun t34 h16 =>
    k2 (some (t34, h16)) fun t20_17 h18 =>
    lp X [p0, p2, p18, p19, p20] c_judge_steps_1_0 (kBlk 0 (fnK [])) [t0, t2, t18, t19, t20_17] h18))
      (some (.val (tupleOf []) h1)) := by kernel_rfl
theorem l_judge_steps_1_0 (F : FuncId → Option CFunc) (t0 t2 t18 t19 t20 : Value) (h : H) {r : Out} : let X := rI F; sh X c_judge_steps_1_0 (K_judge_steps_1_0 X) (setL [p0, p2, p18, p19, p20] [t0, t2, t18, t19, t20]) h = some r → lp X [p0, p2, p18, p19, p20] c_judge_steps_1_0 (kBlk 0 (fnK [])) [t0, t2, t18, t19, t20] h = some r := fun hv => lp_step (by decide) hv
theorem s_judge_steps_1 (X : Rn) (t0 t1 t2 : Value) (h : H) : shFunc X 3 f_judge_steps_1 [t0, t1, t2] h =
    k2 (vField 2 t1 h) fun t9 h1 =>
    k2 (vLoad1 t9 h1) fun t10 h2 =>
    k2 (vLoad1 t2 h2) fun t11 h3 =>
    k2 (X.call (.func (.func n_slices_BinarySearchFunc_api_JudgeEdge_api_JudgeEdge_int_) #[] #[]) [t10, t11, (.func (.func n_judge_steps_1_1) #[] #[])] h3) fun t12 h4 =>
    k2 (some (t12, h4)) fun t8 h5 =>
    k2 (vExtract 0 t8 h5) fun t13 h6 =>
    k2 (vExtract 1 t8 h6) fun t14 h7 =>
    k2 (some (t13, h7)) fun t4 h8 =>
    k2 (some (t14, h8)) fun t5 h9 =>
    k2 (vField 2 t1 h9) fun t15 h10 =>
    k2 (vLoad1 t15 h10) fun t16 h11 =>
    k2 (some (t4, h11)) fun t17 h12 =>
    k2 (sliceV 3 h12 (some t17) none t16) fun t18 h13 =>
    k2 (bltV h13 .len [t18]) fun t19 h14 =>
    k2 (some ((.int .i64 0), h14)) fun t20 h15 =>
    lp X [p0, p2, p18, p19, p20] c_judge_steps_1_0 (kBlk 0 (fnK [])) [t0, t2, t18, t19, t20] h15 := by kernel_rfl
theorem s_slices_BinarySearchFunc_api_JudgeEdge_api_JudgeEdge_int__0 (X : Rn) (t0 t1 t2 t8 t9 : Value) (h : H) : sh X c_slices_BinarySearchFunc_api_JudgeEdge_api_JudgeEdge_int__0 (K_slices_BinarySearchFunc_api_JudgeEdge_api_JudgeEdge_int__0 X) (setL [p0, p1, p2, p8, p9] [t0, t1, t2, t8, t9]) h =
    k2 (some (t9, h)) fun t35 h1 =>
    k2 (some (t9, h1)) fun t36 h2 =>
    k2 (some (t8, h2)) fun t37 h3 =>
    k2 (vBin .lss .other t36 t37 h3) fun t38 h4 =>
    k2 (some (t38, h4)) fun t39 h5 =>
    k2 (gd t39 true h5 (some (t2, h5))) fun t40 h6 =>
    k2 (gd t39 true h6 (some (t0, h6))) fun t41 h7 =>
    k2 (gd t39 true h7 (some (t9, h7))) fun t42 h8 =>
    k2 (gd t39 true h8 (vIndex 3 t41 t42 h8)) fun t43 h9 =>
    k2 (gd t39 true h9 (vLoadN 3 t43 h9)) fun t44 h10 =>
    k2 (gd t39 true h10 (some (t1, h10))) fun t45 h11 =>
    k2 (gd t39 true h11 (X.call t40 [t44, t45] h11)) fun t46 h12 =>
    k2 (gd t39 true h12 (vBin .eql .other t46 (.int .i64 0) h12)) fun t47 h13 =>
    k2 (vPick t39 t47 (.bool false) h13) fun t48 h14 =>
    k2 (some (t35, h14)) fun t6 h15 =>
    k2 (some (t48, h15)) fun t7 h16 =>
    some (.val (tupleOf [t6, t7]) h16) := by kernel_rfl
theorem s_slices_BinarySearchFunc_api_JudgeEdge_api_JudgeEdge_int__1 (X : Rn) (t0 t1 t2 t8 t9 t10 : Value) (h : H) : sh X c_slices_BinarySearchFunc_api_JudgeEdge_api_JudgeEdge_int__1 (K_slices_BinarySearchFunc_api_JudgeEdge_api_JudgeEdge_int__1 X) (setL [p0, p1, p2, p8, p9, p10] [t0, t1, t2, t8, t9, t10]) h =
    k2 (some (t9, h)) fun t15 h1 =>
    k2 (some (t10, h1)) fun t16 h2 =>
    k2 (vBin .lss .other t15 t16 h2) fun t17 h3 =>
    br t17
      (k2 (some (t9, h3)) fun t18 h4 =>
    k2 (some (t10, h4)) fun t19 h5 =>
    k2 (vBin .add .other t18 t19 h5) fun t20 h6 =>
    k2 (vConv .u64 t20 h6) fun t21 h7 =>
    k2 (vBin .shr .other t21 (.int .u64 1) h7) fun t22 h8 =>
    k2 (vConv .i64 t22 h8) fun t23 h9 =>
    k2 (some (t23, h9)) fun t11 h10 =>
    k2 (some (t2, h10)) fun t24 h11 =>
    k2 (some (t0, h11)) fun t25 h12 =>
    k2 (some (t11, h12)) fun t26 h13 =>
    k2 (vIndex 3 t25 t26 h13) fun t27 h14 =>
    k2 (vLoadN 3 t27 h14) fun t28 h15 =>
    k2 (some (t1, h15)) fun t29 h16 =>
    k2 (X.call t24 [t28, t29] h16) fun t30 h17 =>
    k2 (vBin .lss .other t30 (.int .i64 0) h17) fun t31 h18 =>
    br t31
      (k2 (some (t11, h18)) fun t32 h19 =>
    k2 (vBin .add .other t32 (.int .i64 1) h19) fun t33 h20 =>
    k2 (some (t33, h20)) fun t9_21 h22 =>
    lp X [p0, p1, p2, p8, p9, p10] c_slices_BinarySearchFunc_api_JudgeEdge_api_JudgeEdge_int__1 (kBlk 0 (kSeq X c_slices_BinarySearchFunc_api_JudgeEdge_api_JudgeEdge_int__0 [p0, p1, p2, p8, p9] (K_slices_BinarySearchFunc_api_JudgeEdge_api_JudgeEdge_int__0 X))) [t0, t1, t2, t8, t9_21, t10] h22)
      (k2 (some (t11, h18)) fun t34 h23 =>
    k2 (some (t34, h23)) fun t10_24 h25 =>
    lp X [p0, p1, p2, p8, p9, p10] c_slices_BinarySearchFunc_api_JudgeEdge_api_JudgeEdge_int__1 (kBlk 0 (kSeq X c_slices_BinarySearchFunc_api_JudgeEdge_api_JudgeEdge_int__0 [p0, p1, p2, p8, p9] (K_slices_BinarySearchFunc_api_JudgeEdge_api_JudgeEdge_int__0 X))) [t0, t1, t2, t8, t9, t10_24] h25))
      (sh X c_slices_BinarySearchFunc_api_JudgeEdge_api_JudgeEdge_int__0 (K_slices_BinarySearchFunc_api_JudgeEdge_api_JudgeEdge_int__0 X) (setL [p0, p1, p2, p8, p9] [t0, t1, t2, t8, t9]) h3) := by kernel_rfl
theorem l_slices_BinarySearchFunc_api_JudgeEdge_api_JudgeEdge_int__1 (F : FuncId → Option CFunc) (t0 t1 t2 t8 t9 t10 : Value) (h : H) {r : Out} : let X := rI F; sh X c_slices_BinarySearchFunc_api_JudgeEdge_api_JudgeEdge_int__1 (K_slices_BinarySearchFunc_api_JudgeEdge_api_JudgeEdge_int__1 X) (setL [p0, p1, p2, p8, p9, p10] [t0, t1, t2, t8, t9, t10]) h = some r → lp X [p0, p1, p2, p8, p9, p10] c_slices_BinarySearchFunc_api_JudgeEdge_api_JudgeEdge_int__1 (kBlk 0 (kSeq X c_slices_BinarySearchFunc_api_JudgeEdge_api_JudgeEdge_int__0 [p0, p1, p2, p8, p9] (K_slices_BinarySearchFunc_api_JudgeEdge_api_JudgeEdge_int__0 X))) [t0, t1, t2, t8, t9, t10] h = some r := fun hv => lp_step (by decide) hv
theorem s_slices_BinarySearchFunc_api_JudgeEdge_api_JudgeEdge_int_ (X : Rn) (t0 t1 t2 : Value) (h : H) : shFunc X 3 f_slices_BinarySearchFunc_api_JudgeEdge_api_JudgeEdge_int_ [t0, t1, t2] h =
    k2 (some ((.int .i64 0), h)) fun t6 h1 =>
    k2 (some ((.bool false), h1)) fun t7 h2 =>
    k2 (some (t0, h2)) fun t12 h3 =>
    k2 (bltV h3 .len [t12]) fun t13 h4 =>
    k2 (some (t13, h4)) fun t8 h5 =>
    k2 (some (t8, h5)) fun t14 h6 =>
    k2 (some ((.int .i64 0), h6)) fun t9 h7 =>
    k2 (some (t14, h7)) fun t10 h8 =>
    lp X [p0, p1, p2, p8, p9, p10] c_slices_BinarySearchFunc_api_JudgeEdge_api_JudgeEdge_int__1 (kBlk 0 (kSeq X c_slices_BinarySearchFunc_api_JudgeEdge_api_JudgeEdge_int__0 [p0, p1, p2, p8, p9] (K_slices_BinarySearchFunc_api_JudgeEdge_api_JudgeEdge_int__0 X))) [t0, t1, t2, t8, t9, t10] h8 := by kernel_rfl
theorem s_judge_steps_1_1 (X : Rn) (t0 t1 : Value) (h : H) : shFunc X 2 f_judge_steps_1_1 [t0, t1] h =
    k2 (some (newPtr h (cellsL t0))) fun t2 h1 =>
    k2 (some ((.int .i64 0), h1)) fun t4 h2 =>
    k2 (vField 0 t2 h2) fun t5 h3 =>
    k2 (vLoad1 t5 h3) fun t6 h4 =>
    k2 (some (t1, h4)) fun t7 h5 =>
    k2 (X.call (.func (.func n_cmp_Compare_int_) #[] #[]) [t6, t7] h5) fun t8 h6 =>
    k2 (some (t8, h6)) fun t4 h7 =>
    some (.val (tupleOf [t4]) h7) := by kernel_rfl
theorem s_slices_Index_int_int__0 (X : Rn) (h : H) : sh X c_slices_Index_int_int__0 (K_slices_Index_int_int__0 X) (setL [] []) h =
    k2 (some ((.int .i64 (-1)), h)) fun t4 h1 =>
    some (.val (tupleOf [t4]) h1) := by kernel_rfl
theorem s_slices_Index_int_int__1 (X : Rn) (t0 t1 t7 t8 : Value) (h : H) : sh X c_slices_Index_int_int__1 (K_slices_Index_int_int__1 X) (setL [p0, p1, p7, p8] [t0, t1, t7, t8]) h =
    k2 (vBin .lss .other t8 t7 h) fun t9 h1 =>
    br t9
      (k2 (some (t8, h1)) fun t10 h2 =>
    k2 (some (t10, h2)) fun t5 h3 =>
    k2 (some (t1, h3)) fun t11 h4 =>
    k2 (some (t0, h4)) fun t12 h5 =>
    k2 (some (t5, h5)) fun t13 h6 =>
    k2 (vIndex 1 t12 t13 h6) fun t14 h7 =>
    k2 (vLoad1 t14 h7) fun t15 h8 =>
    k2 (vBin .eql .other t11 t15 h8) fun t16 h9 =>
    br t16
      (k2 (some (t5, h9)) fun t17 h10 =>
    k2 (some (t17, h10)) fun t4 h11 =>
    some (.val (tupleOf [t4]) h11))
      (k2 (vBin .add .other t8 (.int .i64 1) h9) fun t18 h12 =>
    k2 (some (t18, h12)) fun t8_13 h14 =>
    lp X [p0, p1, p7, p8] c_slices_Index_int_int__1 (kBlk 0 (kSeq X c_slices_Index_int_int__0 [] (K_slices_Index_int_int__0 X))) [t0, t1, t7, t8_13] h14))
      (sh X c_slices_Index_int_int__0 (K_slices_Index_int_int__0 X) (setL [] []) h1) := by kernel_rfl
theorem l_slices_Index_int_int__1 (F : FuncId → Option CFunc) (t0 t1 t7 t8 : Value) (h : H) {r : Out} : let X := rI F; sh X c_slices_Index_int_int__1 (K_slices_Index_int_int__1 X) (setL [p0, p1, p7, p8] [t0, t1, t7, t8]) h = some r → lp X [p0, p1, p7, p8] c_slices_Index_int_int__1 (kBlk 0 (kSeq X c_slices_Index_int_int__0 [] (K_slices_Index_int_int__0 X))) [t0, t1, t7, t8] h = some r := fun hv => lp_step (by decide) hv
theorem s_slices_Index_int_int_ (X : Rn) (t0 t1 : Value) (h : H) : shFunc X 2 f_slices_Index_int_int_ [t0, t1] h =
    k2 (some ((.int .i64 0), h)) fun t4 h1 =>
    k2 (some (t0, h1)) fun t6 h2 =>
    k2 (bltV h2 .len [t6]) fun t7 h3 =>
    k2 (some ((.int .i64 0), h3)) fun t8 h4 =>
    lp X [p0, p1, p7, p8] c_slices_Index_int_int__1 (kBlk 0 (kSeq X c_slices_Index_int_int__0 [] (K_slices_Index_int_int__0 X))) [t0, t1, t7, t8] h4 := by kernel_rfl
theorem s_cmp_isNaN_int_ (X : Rn) (t0 : Value) (h : H) : shFunc X 1 f_cmp_isNaN_int_ [t0] h =
    k2 (some ((.bool false), h)) fun t2 h1 =>
    k2 (some (t0, h1)) fun t3 h2 =>
    k2 (some (t0, h2)) fun t4 h3 =>
    k2 (vBin .neq .other t3 t4 h3) fun t5 h4 =>
    k2 (some (t5, h4)) fun t2 h5 =>
    some (.val (tupleOf [t2]) h5) := by kernel_rfl
theorem s_judge_rounds_told_0 (X : Rn) (t10 : Value) (h : H) : sh X c_judge_rounds_told_0 (K_judge_rounds_told_0 X) (setL [p10] [t10]) h =
    k2 (vStore 1 t10 (.bool true) h) fun _ h1 =>
    (vRes none t10 h1).bind fun r0 => some (.val (tupleOf [r0]) h1) := by kernel_rfl
theorem s_judge_rounds_told_1 (X : Rn) (l : Nat) (t5 t7 t9 t10 t20 : Value) (h : H) : shRound X r_judge_rounds_told_1 l [t20] (setL [p5, p7, p9, p10] [t5, t7, t9, t10]) h =
    k2 (some (t20, h)) fun t11 h1 =>
    busyK l h1 fun h => sh X c_judge_rounds_told_2 (K_judge_rounds_told_2 X l) (setL [p5, p7, p9, p10, p11, p20] [t5, t7, t9, t10, t11, t20]) h := by kernel_rfl
theorem s_judge_rounds_told_2 (X : Rn) (l : Nat) (t5 t7 t9 t10 t11 t20 : Value) (h : H) : sh X c_judge_rounds_told_2 (K_judge_rounds_told_2 X l) (setL [p5, p7, p9, p10, p11, p20] [t5, t7, t9, t10, t11, t20]) h =
    k2 (vField 1 t7 h) fun t21 h1 =>
    k2 (vLoad1 t21 h1) fun t22 h2 =>
    k2 (some (t11, h2)) fun t23 h3 =>
    k2 ((fillL [(.int .i64 0), (.int .i64 0)] [(0, 1, t22), (1, 1, t23)]).map fun c => (Value.agg ⟨c⟩, h3)) fun t24 h4 =>
    k2 (some (newPtr h4 [(.int .i64 0), (.int .i64 0)])) fun t12 h5 =>
    k2 (vStore 2 t12 t24 h5) fun _ h6 =>
    k2 (vLoad1 t5 h6) fun t26 h7 =>
    k2 (vLoadN 2 t12 h7) fun t27 h8 =>
    k2 (vLookup (.leaves [0, 1]) (.int .i64 0) true t26 t27 h8) fun t28 h9 =>
    k2 (some (t28, h9)) fun t25 h10 =>
    k2 (vExtract 0 t25 h10) fun t29 h11 =>
    k2 (vExtract 1 t25 h11) fun t30 h12 =>
    k2 (some (t29, h12)) fun t13 h13 =>
    k2 (some (t30, h13)) fun t14 h14 =>
    k2 (vLoadN 2 t12 h14) fun t31 h15 =>
    k2 (some (t11, h15)) fun t32 h16 =>
    k2 (some (t11, h16)) fun t33 h17 =>
    k2 ((fillL [(.int .i64 0), (.int .i64 0)] [(0, 1, t32), (1, 1, t33)]).map fun c => (Value.agg ⟨c⟩, h17)) fun t34 h18 =>
    k2 (vBin .eql (.leaves [0, 1]) t31 t34 h18) fun t35 h19 =>
    k2 (some (t35, h19)) fun t36 h20 =>
    k2 (gd t36 false h20 (some (t14, h20))) fun t37 h21 =>
    k2 (gd t36 false h21 (vUn .not t37 h21)) fun t38 h22 =>
    k2 (vPick t36 (.bool true) t38 h22) fun t39 h23 =>
    k2 (some (t39, h23)) fun t40 h24 =>
    k2 (gd t40 false h24 (some (t13, h24))) fun t41 h25 =>
    k2 (gd t40 false h25 (vLoad1 t9 h25)) fun t42 h26 =>
    k2 (gd t40 false h26 (vBin .gtr .other t41 t42 h26)) fun t43 h27 =>
    k2 (vPick t40 (.bool true) t43 h27) fun t44 h28 =>
    br t44
      (k2 (vStore 1 t10 (.bool false) h28) fun _ h29 =>
    fin l (some .ret) h29)
      (fin l none h28) := by kernel_rfl
theorem s_judge_rounds_told (X : Rn) (t0 t1 t2 t3 t4 : Value) (h : H) : shFunc X 5 f_judge_rounds_told [t0, t1, t2, t3, t4] h =
    k2 (some (newPtr h (cellsL t0))) fun t5 h1 =>
    k2 (some (newPtr h1 (cellsL t1))) fun t6 h2 =>
    k2 (some (newPtr h2 (cellsL t2))) fun t7 h3 =>
    k2 (some (newPtr h3 (cellsL t4))) fun t9 h4 =>
    k2 (some (newPtr h4 [(.bool false)])) fun t10 h5 =>
    k2 (vLoadN 3 t6 h5) fun t15 h6 =>
    k2 (some (t3, h6)) fun t16 h7 =>
    k2 (vField 2 t7 h7) fun t17 h8 =>
    k2 (vLoad1 t17 h8) fun t18 h9 =>
    k2 (X.call (.func (.func n_judge_leads) #[] #[]) [t15, t16, t18] h9) fun t19 h10 =>
    (isFn t19).bind fun fv => k2 (X.call fv [.func (.yield h10.next) #[] #[]] (h10.new (.loop .ready none (setL [p5, p7, p9, p10] [t5, t7, t9, t10]) r_judge_rounds_told_1))) fun _ h11 =>
    rgP h10.next h11 (fun h12 => sh X c_judge_rounds_told_0 (K_judge_rounds_told_0 X) (setL [p10] [t10]) h12) (fun i h12 => bx i 0 (sh X c_judge_rounds_told_0 (K_judge_rounds_told_0 X) (setL [p10] [t10]) h12) (none)) (fun h12 => (vRes none t10 h12).bind fun r0 => some (.val (tupleOf [r0]) h12)) := by kernel_rfl
theorem s_judge_leads_1_0 (X : Rn) (l : Nat) (t3 t4 t9 : Value) (h : H) : shRound X r_judge_leads_1_0 l [t9] (setL [p3, p4] [t3, t4]) h =
    k2 (some (newPtr h [(.int .i64 0), (.int .i64 0), (.int .i64 0)])) fun t5 h1 =>
    k2 (vStore 3 t5 t9 h1) fun _ h2 =>
    busyK l h2 fun h => sh X c_judge_leads_1_1 (K_judge_leads_1_1 X l) (setL [p3, p4, p5, p9] [t3, t4, t5, t9]) h := by kernel_rfl
theorem s_judge_leads_1_1 (X : Rn) (l : Nat) (t3 t4 t5 t9 : Value) (h : H) : sh X c_judge_leads_1_1 (K_judge_leads_1_1 X l) (setL [p3, p4, p5, p9] [t3, t4, t5, t9]) h =
    k2 (vField 2 t5 h) fun t10 h1 =>
    k2 (vLoad1 t10 h1) fun t11 h2 =>
    k2 (vLoad1 t3 h2) fun t12 h3 =>
    k2 (vBin .eql .other t11 t12 h3) fun t13 h4 =>
    k2 (some (t13, h4)) fun t14 h5 =>
    k2 (gd t14 true h5 (vLoad1 t4 h5)) fun t15 h6 =>
    k2 (gd t14 true h6 (vField 1 t5 h6)) fun t16 h7 =>
    k2 (gd t14 true h7 (vLoad1 t16 h7)) fun t17 h8 =>
    k2 (gd t14 true h8 (X.call t15 [t17] h8)) fun t18 h9 =>
    k2 (gd t14 true h9 (vUn .not t18 h9)) fun t19 h10 =>
    k2 (vPick t14 t19 (.bool false) h10) fun t20 h11 =>
    br t20
      (fin l (some .ret) h11)
      (fin l none h11) := by kernel_rfl
theorem s_judge_leads_1 (X : Rn) (t0 t1 t2 t3 : Value) (h : H) : shFunc X 4 f_judge_leads_1 [t0, t1, t2, t3] h =
    k2 (some (newPtr h (cellsL t0))) fun t4 h1 =>
    k2 (vLoadN 3 t1 h1) fun t6 h2 =>
    k2 (vLoad1 t2 h2) fun t7 h3 =>
    k2 (X.call (.func (.func n_judge_steps) #[] #[]) [t6, t7] h3) fun t8 h4 =>
    (isFn t8).bind fun fv => k2 (X.call fv [.func (.yield h4.next) #[] #[]] (h4.new (.loop .ready none (setL [p3, p4] [t3, t4]) r_judge_leads_1_0))) fun _ h5 =>
    rgP h4.next h5 (fun h6 => some (.val (tupleOf []) h6)) (fun i h6 => bx i 0 (some (.val (tupleOf []) h6)) (none)) (fun h6 => some (.val (tupleOf []) h6)) := by kernel_rfl

end Go.Ideal.J
end
namespace Go.Ideal.J
open Go Go.Ideal

abbrev edL (a : Int × Int × Int) : List Value := [.int .i64 a.1, .int .i64 a.2.1, .int .i64 a.2.2]
abbrev edV (a : Int × Int × Int) : Value := .agg ⟨edL a⟩
def lessE (a b : Int × Int × Int) : Bool := if a.1 ≠ b.1 then decide (a.1 < b.1) else if a.2.2 ≠ b.2.2 then decide (a.2.2 < b.2.2) else decide (a.2.1 < b.2.1)
def cmpE (a b : Int) : Int := if a < b then -1 else if b < a then 1 else 0

theorem less_ok (a b : Int × Int × Int) (h : H) : callI F (fnV n_cabotageref22_less) [edV a, edV b] h = some (.bool (lessE a b), (h.new (.cells (edL a) 0)).new (.cells (edL b) 0)) := by
  refine call_fn F_cabotageref22_less 2 (by decide) ?_
  rw [s_cabotageref22_less]
  by_cases h1 : a.1 = b.1
  · by_cases h2 : a.2.2 = b.2.2
    · simp [lessE, h1, h2]
    · simp [lessE, h1, h2]
  · simp [lessE, h1]
theorem isNaN_ok (a : Int) (h : H) : callI F (fnV n_cmp_isNaN_int_) [.int .i64 a] h = some (.bool false, h) := by
  refine call_fn F_cmp_isNaN_int_ 1 (by decide) ?_
  rw [s_cmp_isNaN_int_]
  simp
theorem compare_ok (a b : Int) (h : H) : callI F (fnV n_cmp_Compare_int_) [.int .i64 a, .int .i64 b] h = some (.int .i64 (cmpE a b), h) := by
  refine call_fn F_cmp_Compare_int_ 2 (by decide) ?_
  rw [s_cmp_Compare_int_]
  by_cases h1 : a < b
  · simp [isNaN_ok, cmpE, h1]
  · by_cases h2 : b < a
    · simp [isNaN_ok, cmpE, h1, h2]
    · simp [isNaN_ok, cmpE, h1, h2]
def orV (x y z : Int) : Int := if x ≠ 0 then x else if y ≠ 0 then y else z
theorem or_ok (x y z : Int) (h : H) (b : Nat) (hg : h.get b = some (.cells [.int .i64 x, .int .i64 y, .int .i64 z] 0)) : callI F (fnV n_cmp_Or_int_) [.slice (some ⟨b, 0, none⟩) 3 3] h = some (.int .i64 (orV x y z), h) := by
  refine call_fn F_cmp_Or_int_ 1 (by decide) ?_
  rw [s_cmp_Or_int_]
  simp
  refine l_cmp_Or_int__1 F _ _ _ _ _ ?_
  rw [s_cmp_Or_int__1]
  by_cases hx : x = 0
  · simp [hg, hx]
    refine l_cmp_Or_int__1 F _ _ _ _ _ ?_
    rw [s_cmp_Or_int__1]
    by_cases hy : y = 0
    · simp [hg, hy]
      refine l_cmp_Or_int__1 F _ _ _ _ _ ?_
      rw [s_cmp_Or_int__1]
      by_cases hz : z = 0
      · simp [hg, hz]
        refine l_cmp_Or_int__1 F _ _ _ _ _ ?_
        rw [s_cmp_Or_int__1]
        simp [s_cmp_Or_int__0, orV]
      · simp [hg, hz, orV]
    · simp [hg, hy, orV]
  · simp [hg, hx, orV]
def cmpT (a b : Int × Int × Int) : Int := orV (cmpE a.1 b.1) (cmpE a.2.2 b.2.2) (cmpE a.2.1 b.2.1)
theorem judge_compare_ok (a b : Int × Int × Int) (h : H) : callI F (fnV n_judge_compare) [edV a, edV b] h = some (.int .i64 (cmpT a b), ((h.new (.cells (edL a) 0)).new (.cells (edL b) 0)).new (.cells [.int .i64 (cmpE a.1 b.1), .int .i64 (cmpE a.2.2 b.2.2), .int .i64 (cmpE a.2.1 b.2.1)] 0)) := by
  refine call_fn F_judge_compare 2 (by decide) ?_
  rw [s_judge_compare]
  simp [compare_ok, fillL, repeatL]
  rw [or_ok (cmpE a.1 b.1) (cmpE a.2.2 b.2.2) (cmpE a.2.1 b.2.1) _ _ (by simp)]
  simp [cmpT]

abbrev gL (st lb : Int) (sl : Value) : List Value := [.int .i64 st, .int .i64 lb, sl]
abbrev gV (st lb : Int) (sl : Value) : Value := .agg ⟨gL st lb sl⟩
abbrev Ed := Int × Int × Int
def badE (st lb : Int) (x : Ed) : Bool := decide (x.1 < 0) || decide (st ≤ x.1) || decide (x.2.1 < 0) || decide (st ≤ x.2.1) || decide (x.2.2 < 0) || decide (lb ≤ x.2.2)
def okAt (st lb : Int) (es : List Ed) (i : Nat) : Bool := match es[i]? with
  | some x => !badE st lb x && (decide (i = 0) || match es[i - 1]? with | some y => lessE y x | none => true)
  | none => true
def ckN (st lb : Int) (es : List Ed) : Nat → Bool
  | 0 => true
  | n + 1 => okAt st lb es (es.length - (n + 1)) && ckN st lb es n
abbrev ptr (b : Nat) : Value := .pointer (some ⟨b, 0, none⟩)
def erk (b : Bool) : Value := .int .i64 (if b then 0 else 2)

theorem refCheck_loop (st lb : Int) (sl : Value) (es : List Ed) (hsz : es.length ≤ 9223372036854775806) (p : Nat) : ∀ (n i : Nat) (h : H), i + n = es.length → h.get p = some (.cells (gL st lb sl) 0) → p < h.next → Row h 3 sl (es.map edL) →
    ∃ h', lp (rI F) [p1, p3] c_cabotageref22_Check_1 (kBlk 0 (kSeq (rI F) c_cabotageref22_Check_0 [] (K_cabotageref22_Check_0 (rI F)))) [ptr p, .int .i64 (i : Int)] h = some (.val (erk (ckN st lb es n)) h') ∧ Fr h h'
  | 0, i, h, hi, hp, hlt, hrow => by
    obtain ⟨base, c, rfl⟩ := hrow.len
    refine ⟨h, l_cabotageref22_Check_1 F _ _ _ ?_, .refl _⟩
    rw [s_cabotageref22_Check_1]
    have hi' : (es.length : Int) = i := by omega
    simp [hp, hi', s_cabotageref22_Check_0, ckN, erk]
  | n + 1, i, h, hi, hp, hlt, hrow => by
    have hil : i < es.length := by omega
    have hx : (es.map edL)[i]? = some (edL es[i]) := by simp [hil]
    obtain ⟨b, o, cs, e, hv, hb, hg, ht⟩ := hrow.index hx
    have hlen : (es.map edL).length = es.length := List.length_map _
    have n0 : ¬ h.next = b := by omega
    have n1 : ¬ h.next = p := by omega
    have n3 : ¬ h.next + 1 = p := by omega
    have n4 : ¬ h.next + 1 + 1 = p := by omega
    have hsub : es.length - (n + 1) = i := by omega
    have hil' : (i : Int) < es.length := by omega
    generalize hxe : es[i] = x at *
    obtain ⟨base, c, hsl⟩ := hrow.len
    have hbad : badE st lb x = true → ckN st lb es (n + 1) = false := by
      intro hb'
      simp [ckN, hsub, okAt, hil, hxe, hb']
    have key : ∀ r, sh (rI F) c_cabotageref22_Check_1 (K_cabotageref22_Check_1 (rI F)) (setL [p1, p3] [ptr p, .int .i64 (i : Int)]) h = some r → lp (rI F) [p1, p3] c_cabotageref22_Check_1 (kBlk 0 (kSeq (rI F) c_cabotageref22_Check_0 [] (K_cabotageref22_Check_0 (rI F)))) [ptr p, .int .i64 (i : Int)] h = some r := fun r hr => l_cabotageref22_Check_1 F _ _ _ hr
    have hp' := hp
    have hv' := hv
    subst hsl
    rw [hlen] at hp hv
    by_cases h1 : x.1 < 0
    · refine ⟨h.new (.cells (edL x) 0), key _ ?_, .new _ _⟩
      rw [s_cabotageref22_Check_1, hbad (by simp [badE, h1])]
      simp [hp, hil', hv, hg, ht, n0, n1, h1, erk]
    by_cases h2 : st ≤ x.1
    · refine ⟨h.new (.cells (edL x) 0), key _ ?_, .new _ _⟩
      rw [s_cabotageref22_Check_1, hbad (by simp [badE, h2])]
      simp [hp, hil', hv, hg, ht, n0, n1, h1, h2, erk]
    by_cases h3 : x.2.1 < 0
    · refine ⟨h.new (.cells (edL x) 0), key _ ?_, .new _ _⟩
      rw [s_cabotageref22_Check_1, hbad (by simp [badE, h3])]
      simp [hp, hil', hv, hg, ht, n0, n1, h1, h2, h3, erk]
    by_cases h4 : st ≤ x.2.1
    · refine ⟨h.new (.cells (edL x) 0), key _ ?_, .new _ _⟩
      rw [s_cabotageref22_Check_1, hbad (by simp [badE, h4])]
      simp [hp, hil', hv, hg, ht, n0, n1, h1, h2, h3, h4, erk]
    by_cases h5 : x.2.2 < 0
    · refine ⟨h.new (.cells (edL x) 0), key _ ?_, .new _ _⟩
      rw [s_cabotageref22_Check_1, hbad (by simp [badE, h5])]
      simp [hp, hil', hv, hg, ht, n0, n1, h1, h2, h3, h4, h5, erk]
    by_cases h6 : lb ≤ x.2.2
    · refine ⟨h.new (.cells (edL x) 0), key _ ?_, .new _ _⟩
      rw [s_cabotageref22_Check_1, hbad (by simp [badE, h6])]
      simp [hp, hil', hv, hg, ht, n0, n1, h1, h2, h3, h4, h5, h6, erk]
    have hgood : badE st lb x = false := by simp [badE, h1, h2, h3, h4, h5, h6]
    have hadd : (i : Int) + 1 = ((i + 1 : Nat) : Int) := by omega
    have w1 : -9223372036854775808 ≤ (i : Int) + 1 := by omega
    have w2 : (i : Int) + 1 ≤ 9223372036854775807 := by omega
    by_cases hi0 : i = 0
    · have hz : ¬ 0 < i := by omega
      obtain ⟨h', he, hf⟩ := refCheck_loop st lb _ es hsz p n (i + 1) (h.new (.cells (edL x) 0)) (by omega) (by simp [hp', n1]) (by simp; omega) (hrow.fr (.new _ _))
      refine ⟨h', key _ ?_, (Fr.new _ _).trans hf⟩
      have e0 : es[i]? = some x := by simp [hil, hxe]
      have hck : ckN st lb es (n + 1) = ckN st lb es n := by
        show (okAt st lb es (es.length - (n + 1)) && _) = _
        rw [hsub]; unfold okAt; rw [e0]; simp [hgood, hi0]
      rw [s_cabotageref22_Check_1, hck]
      simp [hp, hil', hv, hg, ht, n0, n1, h1, h2, h3, h4, h5, h6, hz, w1, w2]
      simpa using he
    · have hy : (es.map edL)[i - 1]? = some (edL es[i - 1]) := by simp [show i - 1 < es.length by omega]
      obtain ⟨b2, o2, cs2, e2, hv2, hb2, hg2, ht2⟩ := hrow.index hy
      have hye : es[i - 1]? = some es[i - 1] := by simp [show i - 1 < es.length by omega]
      generalize es[i - 1] = y at *
      have n2 : ¬ h.next = b2 := by omega
      have hpred : (i : Int) - 1 = ((i - 1 : Nat) : Int) := by omega
      have w3 : -9223372036854775808 ≤ (i : Int) - 1 := by omega
      have w4 : (i : Int) - 1 ≤ 9223372036854775807 := by omega
      have hsubv : ∀ h', vBin .sub .other (.int .i64 (i : Int)) (.int .i64 1) h' = some (.int .i64 ((i - 1 : Nat) : Int), h') := fun h' => by rw [i64_sub w3 w4, hpred]
      have hpos : 0 < i := by omega
      rw [hlen] at hv2
      have hck : ckN st lb es (n + 1) = (lessE y x && ckN st lb es n) := by simp [ckN, hsub, okAt, hil, hxe, hgood, hi0, hye]
      by_cases hl : lessE y x = true
      · obtain ⟨h', he, hf⟩ := refCheck_loop st lb _ es hsz p n (i + 1) (((h.new (.cells (edL x) 0)).new (.cells (edL y) 0)).new (.cells (edL x) 0)) (by omega) (by simp [hp', n1, n3, n4]) (by simp; omega) (hrow.fr (((Fr.new _ _).newR _).newR _))
        refine ⟨h', key _ ?_, (((Fr.new _ _).newR _).newR _).trans hf⟩
        rw [s_cabotageref22_Check_1, hck, hl, Bool.true_and]
        simp [hp, hil', hv, hg, ht, n0, n1, n2, h1, h2, h3, h4, h5, h6, hpos, w1, w2, hsubv, hv2, hg2, ht2, less_ok, hl]
        simpa using he
      · have hl : lessE y x = false := by simpa using hl
        refine ⟨_, key _ ?_, ((Fr.new h (.cells (edL x) 0)).newR (.cells (edL y) 0)).newR (.cells (edL x) 0)⟩
        rw [s_cabotageref22_Check_1, hck, hl, Bool.false_and]
        simp [hp, hil', hv, hg, ht, n0, n1, n2, h1, h2, h3, h4, h5, h6, hpos, w1, w2, hsubv, hv2, hg2, ht2, less_ok, hl, erk]
end Go.Ideal.J
namespace Go.Ideal.J
open Go Go.Ideal
def chk (st lb : Int) (es : List Ed) : Bool := !(decide (st < 1) || decide (60 < st) || decide (lb < 1) || decide (41 < lb) || decide (400 < es.length)) && ckN st lb es es.length

theorem refCheck_ok (st lb : Int) (sl : Value) (es : List Ed) (h : H) (hrow : Row h 3 sl (es.map edL)) : ∃ h', callI F (fnV n_cabotageref22_Check) [gV st lb sl] h = some (erk (chk st lb es), h') ∧ Fr h h' := by
  obtain ⟨base, c, hsl⟩ := hrow.len
  have hlen : (es.map edL).length = es.length := List.length_map _
  rw [hlen] at hsl
  by_cases h1 : st < 1
  · refine ⟨_, call_fn F_cabotageref22_Check 1 (by decide) ?_, .new h (.cells (gL st lb sl) 0)⟩
    rw [s_cabotageref22_Check]; subst hsl
    simp [h1, chk, erk]
  by_cases h2 : 60 < st
  · refine ⟨_, call_fn F_cabotageref22_Check 1 (by decide) ?_, .new h (.cells (gL st lb sl) 0)⟩
    rw [s_cabotageref22_Check]; subst hsl
    simp [h1, h2, chk, erk]
  by_cases h3 : lb < 1
  · refine ⟨_, call_fn F_cabotageref22_Check 1 (by decide) ?_, .new h (.cells (gL st lb sl) 0)⟩
    rw [s_cabotageref22_Check]; subst hsl
    simp [h1, h2, h3, chk, erk]
  by_cases h4 : 41 < lb
  · refine ⟨_, call_fn F_cabotageref22_Check 1 (by decide) ?_, .new h (.cells (gL st lb sl) 0)⟩
    rw [s_cabotageref22_Check]; subst hsl
    simp [h1, h2, h3, h4, chk, erk]
  by_cases h5 : 400 < es.length
  · refine ⟨_, call_fn F_cabotageref22_Check 1 (by decide) ?_, .new h (.cells (gL st lb sl) 0)⟩
    rw [s_cabotageref22_Check]; subst hsl
    have h5' : (400 : Int) < es.length := by omega
    simp [h1, h2, h3, h4, h5, h5', chk, erk]
  obtain ⟨h', he, hf⟩ := refCheck_loop st lb sl es (by omega) h.next es.length 0 (h.new (.cells (gL st lb sl) 0)) (by omega) (by simp) (by simp) (hrow.fr (.new _ _))
  refine ⟨h', call_fn F_cabotageref22_Check 1 (by decide) ?_, (Fr.new _ _).trans hf⟩
  rw [s_cabotageref22_Check]; subst hsl
  have h5' : ¬ (400 : Int) < es.length := by omega
  have hc : chk st lb es = ckN st lb es es.length := by simp [chk, h1, h2, h3, h4, h5]
  rw [hc]
  simp [h1, h2, h3, h4, h5, h5']
  simpa using he
end Go.Ideal.J
namespace Go.Ideal.J
open Go Go.Ideal
end Go.Ideal.J
namespace Go.Ideal.J
open Go Go.Ideal
theorem min3 (a b c : Int) (h : H) : bltV h .min [.int .i64 a, .int .i64 b, .int .i64 c] = some (.int .i64 (min a (min b c)), h) := by
  show (minmax false (.int .i64 a) [.int .i64 b, .int .i64 c]).map (·, h) = _
  by_cases h1 : b < a
  · by_cases h2 : c < b
    · simp [minmax, ltI_eq, h1, h2]; omega
    · simp [minmax, ltI_eq, h1, h2]; omega
  · by_cases h2 : c < a
    · simp [minmax, ltI_eq, h1, h2]; omega
    · simp [minmax, ltI_eq, h1, h2]; omega
theorem max2 (a b : Int) (h : H) : bltV h .max [.int .i64 a, .int .i64 b] = some (.int .i64 (max a b), h) := by
  show (minmax true (.int .i64 a) [.int .i64 b]).map (·, h) = _
  by_cases h1 : a < b
  · simp [minmax, ltI_eq, h1]; omega
  · simp [minmax, ltI_eq, h1]; omega
theorem cmpT_less (y x : Ed) : (0 ≤ cmpT y x) ↔ lessE y x = false := by
  obtain ⟨y1, y2, y3⟩ := y
  obtain ⟨x1, x2, x3⟩ := x
  unfold cmpT lessE orV cmpE
  dsimp only
  repeat' split
  all_goals (simp; try omega)

theorem judgeCheck_loop (st lb : Int) (sl : Value) (es : List Ed) (hsz : es.length ≤ 9223372036854775806) (p : Nat) : ∀ (n i : Nat) (h : H), i + n = es.length → h.get p = some (.cells (gL st lb sl) 0) → p < h.next → Row h 3 sl (es.map edL) →
    ∃ h', lp (rI F) [p1, p30, p31, p32] c_judge_Check_1 (kBlk 0 (kSeq (rI F) c_judge_Check_0 [] (K_judge_Check_0 (rI F)))) [ptr p, sl, .int .i64 (es.length : Int), .int .i64 (i : Int)] h = some (.val (erk (ckN st lb es n)) h') ∧ Fr h h'
  | 0, i, h, hi, hp, hlt, hrow => by
    refine ⟨h, l_judge_Check_1 F _ _ _ _ _ ?_, .refl _⟩
    rw [s_judge_Check_1]
    have hi' : (es.length : Int) = i := by omega
    simp [hi', s_judge_Check_0, ckN, erk]
  | n + 1, i, h, hi, hp, hlt, hrow => by
    have hil : i < es.length := by omega
    have hx : (es.map edL)[i]? = some (edL es[i]) := by simp [hil]
    obtain ⟨b, o, cs, e, hv, hb, hg, ht⟩ := hrow.index hx
    have hlen : (es.map edL).length = es.length := List.length_map _
    have n0 : ¬ h.next = b := by omega
    have n1 : ¬ h.next = p := by omega
    have n3 : ¬ h.next + 1 = p := by omega
    have n4 : ¬ h.next + 1 + 1 = p := by omega
    have n5 : ¬ h.next + 1 + 1 + 1 = p := by omega
    have hsub : es.length - (n + 1) = i := by omega
    have hil' : (i : Int) < es.length := by omega
    have e0 : es[i]? = some es[i] := by simp [hil]
    generalize es[i] = x at *
    obtain ⟨base, c, hsl⟩ := hrow.len
    rw [hlen] at hsl
    have hbad : badE st lb x = true → ckN st lb es (n + 1) = false := by
      intro hb'
      show (okAt st lb es (es.length - (n + 1)) && _) = _
      rw [hsub]; unfold okAt; rw [e0]; simp [hb']
    have key : ∀ r, sh (rI F) c_judge_Check_1 (K_judge_Check_1 (rI F)) (setL [p1, p30, p31, p32] [ptr p, sl, .int .i64 (es.length : Int), .int .i64 (i : Int)]) h = some r → lp (rI F) [p1, p30, p31, p32] c_judge_Check_1 (kBlk 0 (kSeq (rI F) c_judge_Check_0 [] (K_judge_Check_0 (rI F)))) [ptr p, sl, .int .i64 (es.length : Int), .int .i64 (i : Int)] h = some r := fun r hr => l_judge_Check_1 F _ _ _ _ _ hr
    have hp' := hp
    have hslc := hsl
    subst hsl
    by_cases h1 : min x.1 (min x.2.1 x.2.2) < 0
    · refine ⟨h.new (.cells (edL x) 0), key _ ?_, .new _ _⟩
      rw [s_judge_Check_1, hbad (by simp only [badE, Bool.or_eq_true, decide_eq_true_eq]; omega)]
      simp [hp, hil, hv, hg, ht, n0, n1, min3, max2, h1, erk]
    by_cases h2 : st ≤ max x.1 x.2.1
    · refine ⟨h.new (.cells (edL x) 0), key _ ?_, .new _ _⟩
      rw [s_judge_Check_1, hbad (by simp only [badE, Bool.or_eq_true, decide_eq_true_eq]; omega)]
      simp [hp, hil, hv, hg, ht, n0, n1, min3, max2, h1, h2, erk]
    by_cases h3 : lb ≤ x.2.2
    · refine ⟨h.new (.cells (edL x) 0), key _ ?_, .new _ _⟩
      rw [s_judge_Check_1, hbad (by simp only [badE, Bool.or_eq_true, decide_eq_true_eq]; omega)]
      simp [hp, hil, hv, hg, ht, n0, n1, min3, max2, h1, h2, h3, erk]
    have hgood : badE st lb x = false := by
      rw [Bool.eq_false_iff]; intro hb'; simp only [badE, Bool.or_eq_true, decide_eq_true_eq] at hb'; omega
    have w1 : -9223372036854775808 ≤ (i : Int) + 1 := by omega
    have w2 : (i : Int) + 1 ≤ 9223372036854775807 := by omega
    by_cases hi0 : i = 0
    · have hz : ¬ 0 < i := by omega
      obtain ⟨h', he, hf⟩ := judgeCheck_loop st lb _ es hsz p n (i + 1) (h.new (.cells (edL x) 0)) (by omega) (by simp [hp', n1]) (by simp; omega) (hrow.fr (.new _ _))
      refine ⟨h', key _ ?_, (Fr.new _ _).trans hf⟩
      have hck : ckN st lb es (n + 1) = ckN st lb es n := by
        show (okAt st lb es (es.length - (n + 1)) && _) = _
        rw [hsub]; unfold okAt; rw [e0]; simp [hgood, hi0]
      rw [s_judge_Check_1, hck]
      simp [hp, hil, hv, hg, ht, n0, n1, min3, max2, h1, h2, h3, hz, w1, w2]
      simpa using he
    · have hy : (es.map edL)[i - 1]? = some (edL es[i - 1]) := by simp [show i - 1 < es.length by omega]
      obtain ⟨b2, o2, cs2, e2, hv2, hb2, hg2, ht2⟩ := hrow.index hy
      have hye : es[i - 1]? = some es[i - 1] := by simp [show i - 1 < es.length by omega]
      generalize es[i - 1] = y at *
      have n2 : ¬ h.next = b2 := by omega
      have hpred : (i : Int) - 1 = ((i - 1 : Nat) : Int) := by omega
      have w3 : -9223372036854775808 ≤ (i : Int) - 1 := by omega
      have w4 : (i : Int) - 1 ≤ 9223372036854775807 := by omega
      have hsubv : ∀ h', vBin .sub .other (.int .i64 (i : Int)) (.int .i64 1) h' = some (.int .i64 ((i - 1 : Nat) : Int), h') := fun h' => by rw [i64_sub w3 w4, hpred]
      have hpos : 0 < i := by omega
      have hck : ckN st lb es (n + 1) = (lessE y x && ckN st lb es n) := by
        show (okAt st lb es (es.length - (n + 1)) && _) = _
        rw [hsub]; unfold okAt; rw [e0, hye]; simp [hgood, hi0]
      by_cases hl : lessE y x = true
      · have hc : ¬ 0 ≤ cmpT y x := fun hc => by rw [(cmpT_less y x).1 hc] at hl; cases hl
        obtain ⟨h', he, hf⟩ := judgeCheck_loop st lb _ es hsz p n (i + 1) ((((h.new (.cells (edL x) 0)).new (.cells (edL y) 0)).new (.cells (edL x) 0)).new (.cells [.int .i64 (cmpE y.1 x.1), .int .i64 (cmpE y.2.2 x.2.2), .int .i64 (cmpE y.2.1 x.2.1)] 0)) (by omega) (by simp [hp', n1, n3, n4, n5]) (by simp; omega) (hrow.fr ((((Fr.new _ _).newR _).newR _).newR _))
        refine ⟨h', key _ ?_, ((((Fr.new _ _).newR _).newR _).newR _).trans hf⟩
        rw [s_judge_Check_1, hck, hl, Bool.true_and]
        simp [hp, hil, hv, hg, ht, n0, n1, n2, min3, max2, h1, h2, h3, hpos, w1, w2, hsubv, hv2, hg2, ht2, judge_compare_ok, hc]
        simpa using he
      · have hl : lessE y x = false := by simpa using hl
        have hc : 0 ≤ cmpT y x := (cmpT_less y x).2 hl
        refine ⟨_, key _ ?_, (((Fr.new h (.cells (edL x) 0)).newR (.cells (edL y) 0)).newR (.cells (edL x) 0)).newR (.cells [.int .i64 (cmpE y.1 x.1), .int .i64 (cmpE y.2.2 x.2.2), .int .i64 (cmpE y.2.1 x.2.1)] 0)⟩
        rw [s_judge_Check_1, hck, hl, Bool.false_and]
        simp [hp, hil, hv, hg, ht, n0, n1, n2, min3, max2, h1, h2, h3, hpos, w1, w2, hsubv, hv2, hg2, ht2, judge_compare_ok, hc, erk]

theorem judgeCheck_ok (st lb : Int) (sl : Value) (es : List Ed) (h : H) (hrow : Row h 3 sl (es.map edL)) : ∃ h', callI F (fnV n_judge_Check) [gV st lb sl] h = some (erk (chk st lb es), h') ∧ Fr h h' := by
  obtain ⟨base, c, hsl⟩ := hrow.len
  have hlen : (es.map edL).length = es.length := List.length_map _
  rw [hlen] at hsl
  by_cases h1 : st < 1
  · refine ⟨_, call_fn F_judge_Check 1 (by decide) ?_, .new h (.cells (gL st lb sl) 0)⟩
    rw [s_judge_Check]; subst hsl
    simp [h1, chk, erk]
  by_cases h2 : 60 < st
  · refine ⟨_, call_fn F_judge_Check 1 (by decide) ?_, .new h (.cells (gL st lb sl) 0)⟩
    rw [s_judge_Check]; subst hsl
    simp [h1, h2, chk, erk]
  by_cases h3 : lb < 1
  · refine ⟨_, call_fn F_judge_Check 1 (by decide) ?_, .new h (.cells (gL st lb sl) 0)⟩
    rw [s_judge_Check]; subst hsl
    simp [h1, h2, h3, chk, erk]
  by_cases h4 : 41 < lb
  · refine ⟨_, call_fn F_judge_Check 1 (by decide) ?_, .new h (.cells (gL st lb sl) 0)⟩
    rw [s_judge_Check]; subst hsl
    simp [h1, h2, h3, h4, chk, erk]
  by_cases h5 : 400 < es.length
  · refine ⟨_, call_fn F_judge_Check 1 (by decide) ?_, .new h (.cells (gL st lb sl) 0)⟩
    rw [s_judge_Check]; subst hsl
    have h5' : (400 : Int) < es.length := by omega
    simp [h1, h2, h3, h4, h5, h5', chk, erk]
  obtain ⟨h', he, hf⟩ := judgeCheck_loop st lb sl es (by omega) h.next es.length 0 (h.new (.cells (gL st lb sl) 0)) (by omega) (by simp) (by simp) (hrow.fr (.new _ _))
  refine ⟨h', call_fn F_judge_Check 1 (by decide) ?_, (Fr.new _ _).trans hf⟩
  rw [s_judge_Check]; subst hsl
  have h5' : ¬ (400 : Int) < es.length := by omega
  have hc : chk st lb es = ckN st lb es es.length := by simp [chk, h1, h2, h3, h4, h5]
  rw [hc]
  simp [h1, h2, h3, h4, h5, h5']
  simpa using he
end Go.Ideal.J
namespace Go.Ideal.J
open Go Go.Ideal
abbrev boolsL (bs : List Bool) : List Value := bs.map .bool
abbrev slF (q n : Nat) : Value := .slice (some ⟨q, 0, none⟩) n n
def inB (st : Int) (es : List Ed) : Prop := ∀ x ∈ es, 0 ≤ x.1 ∧ x.1 < st ∧ 0 ≤ x.2.1 ∧ x.2.1 < st

end Go.Ideal.J
namespace Go.Ideal.J
open Go Go.Ideal
end Go.Ideal.J
namespace Go.Ideal.J
open Go Go.Ideal
theorem repeat_bool : ∀ n, repeatL [Value.bool false] n = boolsL (List.replicate n false)
  | 0 => rfl
  | n + 1 => by simp [repeatL, repeat_bool n, List.replicate_succ]
theorem make_bools {n : Nat} (hn : n ≤ 1000) (h : H) : makeSliceV 1 [.bool false] h (.int .i64 (n : Int)) (.int .i64 (n : Int)) = some (slF h.next n, h.new (.cells (boolsL (List.replicate n false)) 0)) := by
  show (if (Nat.ble n n && Nat.ble (n * 1) 1073741824 && Nat.ble n 1073741824) = true then _ else none) = _
  rw [if_pos (by simp; omega), repeat_bool]
inductive Sil (es : List Ed) (a : Nat) : Nat → Prop
  | refl : Sil es a a
  | step {x : Ed} (h : Sil es a x.1.toNat) (hx : x ∈ es) (h0 : x.2.2 = 0) : Sil es a x.2.1.toNat

end Go.Ideal.J
set_option linter.unusedSimpArgs false
set_option linter.unusedVariables false
set_option maxRecDepth 10000
namespace Go.Ideal.J
open Go Go.Ideal

end Go.Ideal.J
set_option linter.unusedSimpArgs false
set_option linter.unusedVariables false
set_option maxRecDepth 10000
namespace Go.Ideal.J
open Go Go.Ideal

end Go.Ideal.J
set_option linter.unusedSimpArgs false
set_option linter.unusedVariables false
set_option maxRecDepth 10000
namespace Go.Ideal.J
open Go Go.Ideal

/-- the edges of a state. -/
def outs (es : List Ed) (a : Int) : List Ed := es.filter fun x => decide (x.1 = a)
/-- how many edges lie below. -/
def below (es : List Ed) (a : Int) : Nat := (es.filter fun x => decide (x.1 < a)).length
end Go.Ideal.J
set_option linter.unusedSimpArgs false
set_option linter.unusedVariables false
set_option maxRecDepth 10000
namespace Go.Ideal.J
open Go Go.Ideal

end Go.Ideal.J
set_option linter.unusedSimpArgs false
set_option linter.unusedVariables false
set_option maxRecDepth 10000
namespace Go.Ideal.J
open Go Go.Ideal

/-- where the edges of a state with a label lead. -/
def tos (es : List Ed) (a lab : Int) : List Int := ((outs es a).filter fun x => decide (x.2.2 = lab)).map fun x => x.2.1
end Go.Ideal.J
set_option linter.unusedSimpArgs false
set_option linter.unusedVariables false
set_option maxRecDepth 10000
namespace Go.Ideal.J
open Go Go.Ideal

end Go.Ideal.J
set_option linter.unusedSimpArgs false
set_option linter.unusedVariables false
set_option maxRecDepth 10000
namespace Go.Ideal.J
open Go Go.Ideal

end Go.Ideal.J
set_option linter.unusedSimpArgs false
set_option linter.unusedVariables false
set_option maxRecDepth 10000
namespace Go.Ideal.J
open Go Go.Ideal

end Go.Ideal.J
set_option linter.unusedSimpArgs false
set_option linter.unusedVariables false
set_option maxRecDepth 10000
namespace Go.Ideal.J
open Go Go.Ideal

end Go.Ideal.J
set_option linter.unusedSimpArgs false
set_option linter.unusedVariables false
set_option maxRecDepth 10000
namespace Go.Ideal.J
open Go Go.Ideal

/-- rows of marks, each in a block of its own. -/
structure There (h : H) (B : Nat) (bl : List Nat) (lo hi N : Nat) (T : Nat → Nat → Prop) : Prop where
  get : h.get B = some (.cells (bl.map fun b => slF b N) 0)
  nd : bl.Nodup
  bnd : ∀ b ∈ bl, lo ≤ b ∧ b < hi
  row : ∀ (l b : Nat), bl[l]? = some b → ∃ bs : List Bool, h.get b = some (.cells (boolsL bs) 0) ∧ bs.length = N ∧ ∀ c, bs[c]? = some true ↔ c < N ∧ T l c
  ltB : B < h.next
  out : B < lo
  hin : hi ≤ h.next
theorem There.fr {D : Nat → Prop} {h h' : H} {B : Nat} {bl : List Nat} {lo hi N : Nat} {T : Nat → Nat → Prop} (t : There h B bl lo hi N T) (hf : FrD D h h') (hB : ¬ D B) (hb : ∀ b, lo ≤ b → b < hi → ¬ D b) : There h' B bl lo hi N T where
  get := (hf.get _ t.ltB hB).trans t.get
  nd := t.nd
  bnd := t.bnd
  row := fun l b e => by
    obtain ⟨bs, h1, h2, h3⟩ := t.row l b e
    have := t.bnd b (List.mem_of_getElem? e)
    have := t.hin
    exact ⟨bs, (hf.get _ (by omega) (hb b (by omega) (by omega))).trans h1, h2, h3⟩
  ltB := Nat.lt_of_lt_of_le t.ltB hf.next
  out := t.out
  hin := Nat.le_trans t.hin hf.next
/-- a mark is set. -/
theorem There.set {h : H} {B : Nat} {bl : List Nat} {lo hi N : Nat} {T : Nat → Nat → Prop} (t : There h B bl lo hi N T) {l c b : Nat} (hl : bl[l]? = some b) (hc : c < N) {bs : List Bool} (hg : h.get b = some (.cells (boolsL bs) 0)) : There (h.put b (.cells (boolsL (bs.set c true)) 0)) B bl lo hi N (fun l' c' => T l' c' ∨ (l' = l ∧ c' = c)) where
  get := by
    have := t.bnd b (List.mem_of_getElem? hl)
    have := t.out
    rw [get_put_ne' (by omega)]; exact t.get
  nd := t.nd
  bnd := t.bnd
  row := fun l' b' e => by
    obtain ⟨bs', h1, h2, h3⟩ := t.row l' b' e
    by_cases eb : b' = b
    · subst eb
      have el : l' = l := by
        have hl1 : l' < bl.length := by
          rcases Nat.lt_or_ge l' bl.length with h' | h'
          · exact h'
          · rw [List.getElem?_eq_none h'] at e; cases e
        have hl2 : l < bl.length := by
          rcases Nat.lt_or_ge l bl.length with h' | h'
          · exact h'
          · rw [List.getElem?_eq_none h'] at hl; cases hl
        rw [List.getElem?_eq_getElem hl1] at e
        rw [List.getElem?_eq_getElem hl2] at hl
        exact (List.getElem_inj t.nd).1 ((Option.some.inj e).trans (Option.some.inj hl).symm)
      subst el
      rw [hg] at h1
      have e2 : bs = bs' := by
        have : boolsL bs = boolsL bs' := (IObj.cells.inj (Option.some.inj h1)).1
        exact List.map_inj_right (fun _ _ h => by cases h; rfl) |>.1 this
      subst e2
      refine ⟨bs.set c true, get_put_eq rfl, by simpa using h2, fun c' => ?_⟩
      rw [List.getElem?_set]
      split
      · rename_i ec; subst ec
        simp [h2, hc]
      · rename_i ec
        rw [h3]
        constructor
        · rintro ⟨q1, q2⟩; exact ⟨q1, .inl q2⟩
        · rintro ⟨q1, q2 | q2⟩
          · exact ⟨q1, q2⟩
          · exact absurd q2.2.symm ec
    · refine ⟨bs', by rw [get_put_ne' eb]; exact h1, h2, fun c' => (h3 c').trans ?_⟩
      have : l' ≠ l := by rintro rfl; rw [hl] at e; cases e; exact eb rfl
      constructor
      · rintro ⟨q1, q2⟩; exact ⟨q1, .inl q2⟩
      · rintro ⟨q1, q2 | q2⟩
        · exact ⟨q1, q2⟩
        · exact absurd q2.1 this
  ltB := t.ltB
  out := t.out
  hin := t.hin
theorem There.congr {h : H} {B : Nat} {bl : List Nat} {lo hi N : Nat} {T T' : Nat → Nat → Prop} (t : There h B bl lo hi N T) (e : ∀ l c, c < N → (T l c ↔ T' l c)) : There h B bl lo hi N T' where
  get := t.get
  nd := t.nd
  bnd := t.bnd
  row := fun l b el => by
    obtain ⟨bs', h1, h2, h3⟩ := t.row l b el
    refine ⟨bs', h1, h2, fun c => (h3 c).trans ?_⟩
    constructor
    · rintro ⟨q1, q2⟩; exact ⟨q1, (e l c q1).1 q2⟩
    · rintro ⟨q1, q2⟩; exact ⟨q1, (e l c q1).2 q2⟩
  ltB := t.ltB
  out := t.out
  hin := t.hin
theorem There.slice {h : H} {B : Nat} {bl : List Nat} {lo hi N : Nat} {T : Nat → Nat → Prop} (t : There h B bl lo hi N T) {l b : Nat} (hl : bl[l]? = some b) : takeC 1 (dropN l (bl.map fun b => slF b N)) = some [slF b N] := takeC_at (by rw [List.getElem?_map, hl]; rfl) rfl

end Go.Ideal.J
set_option linter.unusedSimpArgs false
set_option linter.unusedVariables false
set_option maxRecDepth 10000
namespace Go.Ideal.J
open Go Go.Ideal

end Go.Ideal.J
set_option linter.unusedSimpArgs false
set_option linter.unusedVariables false
set_option maxRecDepth 10000
namespace Go.Ideal.J
open Go Go.Ideal
end Go.Ideal.J
set_option linter.unusedSimpArgs false
set_option linter.unusedVariables false
set_option maxRecDepth 10000
namespace Go.Ideal.J
open Go Go.Ideal

end Go.Ideal.J
set_option linter.unusedSimpArgs false
set_option linter.unusedVariables false
set_option maxRecDepth 10000
namespace Go.Ideal.J
open Go Go.Ideal
end Go.Ideal.J
set_option linter.unusedSimpArgs false
set_option linter.unusedVariables false
set_option maxRecDepth 10000
namespace Go.Ideal.J
open Go Go.Ideal
/-- the weak steps. -/
def W (es : List Ed) (n l c : Nat) : Prop := (l = 0 ∧ Sil es n c) ∨ ∃ x ∈ es, Sil es n x.1.toNat ∧ x.2.2 = (l : Int) ∧ Sil es x.2.1.toNat c
end Go.Ideal.J
set_option linter.unusedSimpArgs false
set_option linter.unusedVariables false
set_option maxRecDepth 10000
namespace Go.Ideal.J
open Go Go.Ideal
end Go.Ideal.J
set_option linter.unusedSimpArgs false
set_option linter.unusedVariables false
set_option maxRecDepth 10000
namespace Go.Ideal.J
open Go Go.Ideal
/-- a graph that is formed. -/
structure Formed (st lb : Int) (es : List Ed) : Prop where
  st1 : 1 ≤ st
  st2 : st ≤ 60
  lb1 : 1 ≤ lb
  lb2 : lb ≤ 41
  len : es.length ≤ 400
  ok : ∀ x ∈ es, 0 ≤ x.1 ∧ x.1 < st ∧ 0 ≤ x.2.1 ∧ x.2.1 < st ∧ 0 ≤ x.2.2 ∧ x.2.2 < lb
  next : ∀ i x y, es[i]? = some x → es[i + 1]? = some y → lessE x y = true
theorem Formed.inB {st lb : Int} {es : List Ed} (f : Formed st lb es) : inB st es := fun x hx => by have := f.ok x hx; exact ⟨this.1, this.2.1, this.2.2.1, this.2.2.2.1⟩
theorem chk_iff (st lb : Int) (es : List Ed) : chk st lb es = true ↔ Formed st lb es := by
  have key : ∀ n, n ≤ es.length → (ckN st lb es n = true ↔ ∀ i, es.length - n ≤ i → okAt st lb es i = true) := by
    intro n
    induction n with
    | zero =>
      intro _
      constructor
      · intro _ i hi
        unfold okAt
        rw [List.getElem?_eq_none (by omega)]
      · intro _; rfl
    | succ n ih =>
      intro hn
      show (okAt st lb es (es.length - (n + 1)) && ckN st lb es n) = true ↔ _
      rw [Bool.and_eq_true, ih (by omega)]
      constructor
      · rintro ⟨h1, h2⟩ i hi
        by_cases e : i = es.length - (n + 1)
        · rw [e]; exact h1
        · exact h2 i (by omega)
      · intro h
        exact ⟨h _ (by omega), fun i hi => h i (by omega)⟩
  have key2 : (ckN st lb es es.length = true) ↔ ((∀ x ∈ es, 0 ≤ x.1 ∧ x.1 < st ∧ 0 ≤ x.2.1 ∧ x.2.1 < st ∧ 0 ≤ x.2.2 ∧ x.2.2 < lb) ∧ ∀ i x y, es[i]? = some x → es[i + 1]? = some y → lessE x y = true) := by
    rw [key es.length (Nat.le_refl _)]
    constructor
    · intro h
      refine ⟨fun x hx => ?_, fun i x y hx hy => ?_⟩
      · obtain ⟨i, hi⟩ := List.mem_iff_getElem?.1 hx
        have := h i (by omega)
        unfold okAt at this
        rw [hi] at this
        simp only [Bool.and_eq_true, Bool.not_eq_true', badE, Bool.or_eq_false_iff, decide_eq_false_iff_not] at this
        omega
      · have := h (i + 1) (by omega)
        unfold okAt at this
        rw [hy] at this
        simp only [Bool.and_eq_true, Nat.add_sub_cancel, hx] at this
        simpa using this.2
    · rintro ⟨h1, h2⟩ i _
      unfold okAt
      cases hx : es[i]? with
      | none => rfl
      | some x =>
        have hb := h1 x (List.mem_of_getElem? hx)
        have hbad : badE st lb x = false := by
          simp only [badE, Bool.or_eq_false_iff, decide_eq_false_iff_not]; omega
        simp only [hbad, Bool.not_false, Bool.true_and, Bool.or_eq_true, decide_eq_true_eq]
        by_cases e : i = 0
        · exact .inl e
        · right
          cases hy : es[i - 1]? with
          | none => rfl
          | some y => exact h2 (i - 1) y x hy (by rw [show i - 1 + 1 = i by omega]; exact hx)
  unfold chk
  simp only [Bool.and_eq_true, Bool.not_eq_true', Bool.or_eq_false_iff, decide_eq_false_iff_not, key2]
  constructor
  · rintro ⟨⟨⟨⟨⟨h1, h2⟩, h3⟩, h4⟩, h5⟩, h6, h7⟩
    exact ⟨by omega, by omega, by omega, by omega, by omega, h6, h7⟩
  · rintro ⟨h1, h2, h3, h4, h5, h6, h7⟩
    exact ⟨⟨⟨⟨⟨by omega, by omega⟩, by omega⟩, by omega⟩, by omega⟩, h6, h7⟩

/-- what Weak answers. -/
abbrev pairV (a b : Value) : Value := .tuple ⟨[a, b]⟩
end Go.Ideal.J
set_option linter.unusedSimpArgs false
set_option linter.unusedVariables false
set_option maxRecDepth 10000
set_option maxHeartbeats 2000000
namespace Go.Ideal.J
open Go Go.Ideal
def tellsR (r : Int → Int → Option Int) (round u t : Int) : Bool := decide (u ≠ t) && match r u t with | some k => decide (k ≤ round) | none => false
def toldR (r : Int → Int → Option Int) (es : List Ed) (x : Ed) (other round : Int) : Bool := (tos es other x.2.2).all fun t => tellsR r round x.2.1 t

end Go.Ideal.J
set_option linter.unusedSimpArgs false
set_option linter.unusedVariables false
set_option maxRecDepth 10000
set_option maxHeartbeats 2000000
namespace Go.Ideal.J
open Go Go.Ideal

end Go.Ideal.J
set_option linter.unusedSimpArgs false
set_option linter.unusedVariables false
set_option maxRecDepth 10000
set_option maxHeartbeats 2000000
namespace Go.Ideal.J
open Go Go.Ideal
def firstR (r : Int → Int → Option Int) (es : List Ed) (a b round : Int) : Option Ed := (outs es a).find? fun x => toldR r es x b round
end Go.Ideal.J
set_option linter.unusedSimpArgs false
set_option linter.unusedVariables false
set_option maxRecDepth 10000
set_option maxHeartbeats 2000000
namespace Go.Ideal.J
open Go Go.Ideal
/-- what is told apart in a round. -/
def condR (r : Int → Int → Option Int) (es : List Ed) (n : Int) (a b : Int) : Bool := (r a b).isNone && ((firstR r es a b (n - 1)).isSome || (firstR r es b a (n - 1)).isSome)
def fndA (r : Int → Int → Option Int) (es : List Ed) (n : Int) (a b : Nat) : List (Int × Int) := ((List.range b).filter fun (b : Nat) => condR r es n (a : Int) (b : Int)).map fun (b : Nat) => ((a : Int), (b : Int))
def fnd (r : Int → Int → Option Int) (es : List Ed) (n : Int) (a : Nat) : List (Int × Int) := (List.range a).flatMap fun a => fndA r es n a a
end Go.Ideal.J
set_option linter.unusedSimpArgs false
set_option linter.unusedVariables false
set_option maxRecDepth 10000
set_option maxHeartbeats 2000000
namespace Go.Ideal.J
open Go Go.Ideal
def setR (r : Int → Int → Option Int) (n : Int) (p : Int × Int) : Int → Int → Option Int := fun c d => if (c = p.1 ∧ d = p.2) ∨ (c = p.2 ∧ d = p.1) then some n else r c d
def updAll (r : Int → Int → Option Int) (n : Int) (l : List (Int × Int)) : Int → Int → Option Int := l.foldl (fun r p => setR r n p) r
/-- the rounds, one by one. -/
def rN (es : List Ed) (N : Nat) : Nat → Int → Int → Option Int
  | 0 => fun _ _ => none
  | k + 1 => updAll (rN es N k) ((k : Int) + 1) (fnd (rN es N k) es ((k : Int) + 1) N)
end Go.Ideal.J
set_option linter.unusedSimpArgs false
set_option linter.unusedVariables false
set_option maxRecDepth 10000
set_option maxHeartbeats 2000000
namespace Go.Ideal.J
open Go Go.Ideal
end Go.Ideal.J
set_option linter.unusedSimpArgs false
set_option linter.unusedVariables false
set_option maxRecDepth 10000
set_option maxHeartbeats 2000000
namespace Go.Ideal.J
open Go Go.Ideal
end Go.Ideal.J
set_option linter.unusedSimpArgs false
set_option linter.unusedVariables false
set_option maxRecDepth 10000
set_option maxHeartbeats 2000000
namespace Go.Ideal.J
open Go Go.Ideal
/-! ### Bisimulations -/
def IsBis (es : List Ed) (R : Int → Int → Prop) : Prop :=
  ∀ a b, R a b → (∀ x ∈ outs es a, ∃ t ∈ tos es b x.2.2, R x.2.1 t) ∧ (∀ y ∈ outs es b, ∃ t ∈ tos es a y.2.2, R t y.2.1)
def Bis (es : List Ed) (a b : Int) : Prop := ∃ R, IsBis es R ∧ R a b
theorem Bis.symm {es : List Ed} {a b : Int} (h : Bis es a b) : Bis es b a := by
  obtain ⟨R, hR, h⟩ := h
  exact ⟨fun x y => R y x, fun x y hxy => ⟨(hR y x hxy).2, (hR y x hxy).1⟩, h⟩
end Go.Ideal.J
set_option linter.unusedSimpArgs false
set_option linter.unusedVariables false
set_option maxRecDepth 10000
set_option maxHeartbeats 2000000
namespace Go.Ideal.J
open Go Go.Ideal
/-! ### Two graphs as one -/
section
variable {es fs : List Ed} {N M K : Nat}
end
end Go.Ideal.J
set_option linter.unusedSimpArgs false
set_option linter.unusedVariables false
set_option maxRecDepth 10000
set_option maxHeartbeats 2000000
namespace Go.Ideal.J
open Go Go.Ideal
theorem known_ok' (h : H) : callI F (fnV n_cabotagelaw22_known) [] h = some (.bool true, h) := by
  refine call_fn F_cabotagelaw22_known 0 (by decide) ?_
  rfl
end Go.Ideal.J
set_option linter.unusedSimpArgs false
set_option linter.unusedVariables false
set_option maxRecDepth 10000
set_option maxHeartbeats 2000000
namespace Go.Ideal.J
open Go Go.Ideal
end Go.Ideal.J
set_option linter.unusedSimpArgs false
set_option linter.unusedVariables false
set_option maxRecDepth 10000
set_option maxHeartbeats 2000000
namespace Go.Ideal.J
open Go Go.Ideal
/-- the lists of edges and the rounds, as the reference holds them. -/
structure RC2 (es : List Ed) (N : Nat) (h : H) (tl tr : Value) (lvs rvs : List Value) (R : Int → Int → Int) : Prop where
  rl : Row h 1 tl (lvs.map fun v => [v])
  rr : Row h 1 tr (rvs.map fun v => [v])
  lst : ∀ a : Nat, a < N → ∃ lv, lvs[a]? = some lv ∧ Row h 3 lv ((outs es a).map edL)
  mat : ∀ a : Nat, a < N → ∃ (q : Nat) (is : List Int), rvs[a]? = some (slF q N) ∧ h.get q = some (.cells (is.map fun i => .int .i64 i) 0) ∧ is.length = N ∧ (∀ c : Nat, c < N → is[c]? = some (R a c)) ∧ q < h.next
theorem RC2.fr {es : List Ed} {N : Nat} {h h' : H} {tl tr : Value} {lvs rvs : List Value} {R : Int → Int → Int} (r : RC2 es N h tl tr lvs rvs R) (hf : Fr h h') : RC2 es N h' tl tr lvs rvs R where
  rl := r.rl.fr hf
  rr := r.rr.fr hf
  lst := fun a ha => by obtain ⟨lv, h1, h2⟩ := r.lst a ha; exact ⟨lv, h1, h2.fr hf⟩
  mat := fun a ha => by
    obtain ⟨q, is, h1, h2, h3, h4, h5⟩ := r.mat a ha
    exact ⟨q, is, h1, (hf.get _ h5).trans h2, h3, h4, Nat.lt_of_lt_of_le h5 hf.next⟩
end Go.Ideal.J
set_option linter.unusedSimpArgs false
set_option linter.unusedVariables false
set_option maxRecDepth 10000
set_option maxHeartbeats 2000000
namespace Go.Ideal.J
open Go Go.Ideal
end Go.Ideal.J
set_option linter.unusedSimpArgs false
set_option linter.unusedVariables false
set_option maxRecDepth 10000
set_option maxHeartbeats 2000000
namespace Go.Ideal.J
open Go Go.Ideal
theorem map_i64 : ∀ {l l' : List Int}, l.map (fun i => Value.int .i64 i) = l'.map (fun i => Value.int .i64 i) → l = l'
  | [], [], _ => rfl
  | [], _ :: _, h => by simp at h
  | _ :: _, [], h => by simp at h
  | x :: l, y :: l', h => by have h := List.cons.inj h; rw [(Value.int.inj h.1).2, map_i64 h.2]
/-- what Rounds has made: the edges of each state, and a matrix. -/
structure RC3 (es : List Ed) (N : Nat) (lo : Nat) (h : H) (tl tr : Value) (lvs : List Value) (qs : List Nat) (R : Int → Int → Int) : Prop where
  rl : Row h 1 tl (lvs.map fun v => [v])
  rr : Row h 1 tr (qs.map fun q => [slF q N])
  lst : ∀ a : Nat, a < N → ∃ lv, lvs[a]? = some lv ∧ Row h 3 lv ((outs es a).map edL) ∧ ∀ b o n c, lv = .slice (some ⟨b, o, none⟩) n c → b ∉ qs
  nl : ∀ b o n c, tl = .slice (some ⟨b, o, none⟩) n c → b ∉ qs
  nr : ∀ b o n c, tr = .slice (some ⟨b, o, none⟩) n c → b ∉ qs
  nd : qs.Nodup
  ql : ∀ q ∈ qs, lo ≤ q ∧ q < h.next
  len : qs.length = N
  mat : ∀ (a q : Nat), qs[a]? = some q → ∃ is : List Int, h.get q = some (.cells (is.map fun i => .int .i64 i) 0) ∧ is.length = N ∧ ∀ c : Nat, c < N → is[c]? = some (R a c)
theorem RC3.two {es : List Ed} {N lo : Nat} {h : H} {tl tr : Value} {lvs : List Value} {qs : List Nat} {R : Int → Int → Int} (r : RC3 es N lo h tl tr lvs qs R) : RC2 es N h tl tr lvs (qs.map fun q => slF q N) R where
  rl := r.rl
  rr := by rw [List.map_map]; exact r.rr
  lst := fun a ha => by obtain ⟨lv, h1, h2, _⟩ := r.lst a ha; exact ⟨lv, h1, h2⟩
  mat := fun a ha => by
    have hq : qs[a]? = some (qs[a]'(by rw [r.len]; exact ha)) := List.getElem?_eq_getElem _
    obtain ⟨is, h1, h2, h3⟩ := r.mat a _ hq
    exact ⟨_, is, by rw [List.getElem?_map, hq]; rfl, h1, h2, h3, (r.ql _ (List.mem_of_getElem? hq)).2⟩
theorem RC3.fr {es : List Ed} {N lo : Nat} {h h' : H} {tl tr : Value} {lvs : List Value} {qs : List Nat} {R : Int → Int → Int} (r : RC3 es N lo h tl tr lvs qs R) (hf : Fr h h') : RC3 es N lo h' tl tr lvs qs R where
  rl := r.rl.fr hf
  rr := r.rr.fr hf
  lst := fun a ha => by obtain ⟨lv, h1, h2, h3⟩ := r.lst a ha; exact ⟨lv, h1, h2.fr hf, h3⟩
  nl := r.nl
  nr := r.nr
  nd := r.nd
  ql := fun q hq => ⟨(r.ql q hq).1, Nat.lt_of_lt_of_le (r.ql q hq).2 hf.next⟩
  len := r.len
  mat := fun a q hq => by
    obtain ⟨is, h2, h3, h4⟩ := r.mat a q hq
    exact ⟨is, (hf.get _ (r.ql q (List.mem_of_getElem? hq)).2).trans h2, h3, h4⟩
def updR (R : Int → Int → Int) (a b n : Int) : Int → Int → Int := fun c d => if c = a ∧ d = b then n else R c d
theorem RC3.set {es : List Ed} {N lo : Nat} {h : H} {tl tr : Value} {lvs : List Value} {qs : List Nat} {R : Int → Int → Int} (r : RC3 es N lo h tl tr lvs qs R) {a c q : Nat} (ha : qs[a]? = some q) (hc : c < N) (n : Int) {is : List Int} (hg : h.get q = some (.cells (is.map fun i => .int .i64 i) 0)) :
    RC3 es N lo (h.put q (.cells ((is.set c n).map fun i => .int .i64 i) 0)) tl tr lvs qs (updR R a c n) := by
  have hqm := List.mem_of_getElem? ha
  have hf : FrD (fun j => j ∈ qs) h (h.put q (.cells ((is.set c n).map fun i => .int .i64 i) 0)) := (FrD.refl _ h).put (.inr hqm) _
  exact {
    rl := r.rl.frD hf (fun b o n c e hd => r.nl b o n c e hd)
    rr := r.rr.frD hf (fun b o n c e hd => r.nr b o n c e hd)
    lst := fun a ha => by obtain ⟨lv, h1, h2, h3⟩ := r.lst a ha; exact ⟨lv, h1, h2.frD hf (fun b o n c e hd => h3 b o n c e hd), h3⟩
    nl := r.nl
    nr := r.nr
    nd := r.nd
    ql := fun q' hq => by rw [put_next]; exact r.ql q' hq
    len := r.len
    mat := fun a' q' hq => by
      obtain ⟨is', h2, h3, h4⟩ := r.mat a' q' hq
      by_cases e : a' = a
      · subst e
        rw [ha] at hq; cases hq
        rw [hg] at h2
        have hii : is' = is := map_i64 (IObj.cells.inj (Option.some.inj h2)).1.symm
        subst hii
        refine ⟨is'.set c n, by simp, by simpa using h3, fun d hd => ?_⟩
        rw [List.getElem?_set]
        unfold updR
        by_cases e : c = d
        · subst e; rw [if_pos rfl, if_pos (by omega), if_pos ⟨rfl, rfl⟩]
        · rw [if_neg e, if_neg (by omega)]; exact h4 d hd
      · have hne : q' ≠ q := by
          intro e2; subst e2
          have h5 : qs[a']? = qs[a]? := by rw [hq, ha]
          have hl : a < qs.length := by
            rcases Nat.lt_or_ge a qs.length with h' | h'
            · exact h'
            · rw [List.getElem?_eq_none h'] at ha; cases ha
          exact e ((List.getElem?_inj hl r.nd).1 h5.symm).symm
        refine ⟨is', by rw [get_put_ne' (hne)]; exact h2, h3, fun d hd => ?_⟩
        unfold updR
        rw [if_neg (by omega)]; exact h4 d hd }
end Go.Ideal.J
set_option linter.unusedSimpArgs false
set_option linter.unusedVariables false
set_option maxRecDepth 10000
set_option maxHeartbeats 2000000
namespace Go.Ideal.J
open Go Go.Ideal
end Go.Ideal.J
set_option linter.unusedSimpArgs false
set_option linter.unusedVariables false
set_option maxRecDepth 10000
set_option maxHeartbeats 2000000
namespace Go.Ideal.J
open Go Go.Ideal
end Go.Ideal.J
set_option linter.unusedSimpArgs false
set_option linter.unusedVariables false
set_option maxRecDepth 10000
set_option maxHeartbeats 2000000
namespace Go.Ideal.J
open Go Go.Ideal
end Go.Ideal.J
set_option linter.unusedSimpArgs false
set_option linter.unusedVariables false
set_option maxRecDepth 10000
set_option maxHeartbeats 2000000
namespace Go.Ideal.J
open Go Go.Ideal
/-! ### Formulas -/
inductive Fml where | mk (op lab : Int) (kids : List Fml)
mutual
def sz : Fml → Nat
  | .mk _ _ ks => 1 + szs ks
def szs : List Fml → Nat
  | [] => 0
  | k :: ks => sz k + szs ks
end
theorem sz_pos : ∀ f : Fml, 1 ≤ sz f
  | .mk _ _ ks => by simp [sz]
/-! ### The rounds are stable -/
/-! ### What tells two states apart -/
def Ok (es : List Ed) (N k : Nat) (n : Nat) (a b : Int) : Prop := ∃ v, rN es N k a b = some v ∧ 2 * v ≤ n ∧ (firstR (rN es N k) es a b (v - 1) = none → 2 * v + 1 ≤ n)
theorem Ok.mono {es : List Ed} {N k n m : Nat} {a b : Int} (h : Ok es N k n a b) (hm : n ≤ m) : Ok es N k m a b := by
  obtain ⟨v, h1, h2, h3⟩ := h
  exact ⟨v, h1, by omega, fun e => by have := h3 e; omega⟩
end Go.Ideal.J
set_option linter.unusedSimpArgs false
set_option linter.unusedVariables false
set_option maxRecDepth 10000
set_option maxHeartbeats 2000000
namespace Go.Ideal.J
open Go Go.Ideal
/-! ### A formula in the heap: its cells; the blocks below it satisfy B. -/
abbrev fmL (op lab : Int) (slv : Value) : List Value := [.int .i64 op, .int .i64 lab, slv]
mutual
def FV (B : Nat → Prop) (h : H) : Fml → List Value → Prop
  | .mk op lab ks, r => ∃ slv rows, r = fmL op lab slv ∧ Row h 3 slv rows ∧ (∀ b o n c, slv = .slice (some ⟨b, o, none⟩) n c → B b) ∧ rows.length ≤ 100000 ∧ FVs B h ks rows
def FVs (B : Nat → Prop) (h : H) : List Fml → List (List Value) → Prop
  | [], rows => rows = []
  | k :: ks, rows => ∃ r rs, rows = r :: rs ∧ FV B h k r ∧ FVs B h ks rs
end
mutual
theorem FV.mono {B C : Nat → Prop} {h : H} (hBC : ∀ b, b < h.next → B b → C b) : ∀ {f : Fml} {r : List Value}, FV B h f r → FV C h f r
  | .mk op lab ks, r, hf => by
    unfold FV at hf ⊢
    obtain ⟨slv, rows, h1, h2, h3, h4, h5⟩ := hf
    exact ⟨slv, rows, h1, h2, fun b o n c e => hBC b (h2.lt e) (h3 b o n c e), h4, FVs.mono hBC h5⟩
theorem FVs.mono {B C : Nat → Prop} {h : H} (hBC : ∀ b, b < h.next → B b → C b) : ∀ {fs : List Fml} {rs : List (List Value)}, FVs B h fs rs → FVs C h fs rs
  | [], rs, hf => by unfold FVs at hf ⊢; exact hf
  | f :: fs, rs, hf => by
    unfold FVs at hf ⊢
    obtain ⟨r, rs', h1, h2, h3⟩ := hf
    exact ⟨r, rs', h1, FV.mono hBC h2, FVs.mono hBC h3⟩
end
mutual
theorem FV.frD {B D : Nat → Prop} {h h' : H} (hf' : FrD D h h') (hBC : ∀ b, b < h.next → B b → ¬ D b) : ∀ {f : Fml} {r : List Value}, FV B h f r → FV B h' f r
  | .mk op lab ks, r, hf => by
    unfold FV at hf ⊢
    obtain ⟨slv, rows, h1, h2, h3, h4, h5⟩ := hf
    exact ⟨slv, rows, h1, h2.frD hf' (fun b o n c e => hBC b (h2.lt e) (h3 b o n c e)), h3, h4, FVs.frD hf' hBC h5⟩
theorem FVs.frD {B D : Nat → Prop} {h h' : H} (hf' : FrD D h h') (hBC : ∀ b, b < h.next → B b → ¬ D b) : ∀ {fs : List Fml} {rs : List (List Value)}, FVs B h fs rs → FVs B h' fs rs
  | [], rs, hf => by unfold FVs at hf ⊢; exact hf
  | f :: fs, rs, hf => by
    unfold FVs at hf ⊢
    obtain ⟨r, rs', h1, h2, h3⟩ := hf
    exact ⟨r, rs', h1, FV.frD hf' hBC h2, FVs.frD hf' hBC h3⟩
end
mutual
/-- all its blocks are there. -/
theorem FV.bnd {B : Nat → Prop} {h : H} : ∀ {f : Fml} {r : List Value}, FV B h f r → FV (fun b => B b ∧ b < h.next) h f r
  | .mk op lab ks, r, hf => by
    unfold FV at hf ⊢
    obtain ⟨slv, rows, h1, h2, h3, h4, h5⟩ := hf
    exact ⟨slv, rows, h1, h2, fun b o n c e => ⟨h3 b o n c e, h2.lt e⟩, h4, FVs.bnd h5⟩
theorem FVs.bnd {B : Nat → Prop} {h : H} : ∀ {fs : List Fml} {rs : List (List Value)}, FVs B h fs rs → FVs (fun b => B b ∧ b < h.next) h fs rs
  | [], rs, hf => by unfold FVs at hf ⊢; exact hf
  | f :: fs, rs, hf => by
    unfold FVs at hf ⊢
    obtain ⟨r, rs', h1, h2, h3⟩ := hf
    exact ⟨r, rs', h1, FV.bnd h2, FVs.bnd h3⟩
end
theorem FVs.len {B : Nat → Prop} {h : H} : ∀ {fs : List Fml} {rs : List (List Value)}, FVs B h fs rs → rs.length = fs.length
  | [], rs, hf => by unfold FVs at hf; rw [hf]; rfl
  | f :: fs, rs, hf => by
    unfold FVs at hf
    obtain ⟨r, rs', rfl, h2, h3⟩ := hf
    rw [List.length_cons, List.length_cons, FVs.len h3]
theorem FVs.at {B : Nat → Prop} {h : H} : ∀ {fs : List Fml} {rs : List (List Value)}, FVs B h fs rs → ∀ {i : Nat} {f : Fml}, fs[i]? = some f → ∃ r, rs[i]? = some r ∧ FV B h f r
  | [], rs, hf, i, f, hi => by simp at hi
  | g :: fs, rs, hf, i, f, hi => by
    unfold FVs at hf
    obtain ⟨r, rs', rfl, h2, h3⟩ := hf
    cases i with
    | zero => simp at hi; subst hi; exact ⟨r, rfl, h2⟩
    | succ i => exact FVs.at h3 (by simpa using hi)
theorem FV.cells {B : Nat → Prop} {h : H} {f : Fml} {r : List Value} (hf : FV B h f r) : ∃ op lab bs n c, r = fmL op lab (.slice bs n c) ∧ r.length = 3 ∧ r.all clean1 = true ∧ r.all isCell = true := by
  cases f with
  | mk op lab ks =>
    unfold FV at hf
    obtain ⟨slv, rows, rfl, h2, h3, h4, h5⟩ := hf
    obtain ⟨b, c, rfl⟩ := h2.len
    exact ⟨op, lab, b, _, c, rfl, rfl, rfl, rfl⟩
theorem FV.fr {B : Nat → Prop} {h h' : H} (hf' : Fr h h') {f : Fml} {r : List Value} (hf : FV B h f r) : FV B h' f r := FV.frD (D := fun _ => False) hf'.D (fun _ _ _ => id) hf
theorem FVs.fr {B : Nat → Prop} {h h' : H} (hf' : Fr h h') {f : List Fml} {r : List (List Value)} (hf : FVs B h f r) : FVs B h' f r := FVs.frD (D := fun _ => False) hf'.D (fun _ _ _ => id) hf
end Go.Ideal.J
set_option linter.unusedSimpArgs false
set_option linter.unusedVariables false
set_option maxRecDepth 10000
set_option maxHeartbeats 2000000
namespace Go.Ideal.J
open Go Go.Ideal
end Go.Ideal.J
set_option linter.unusedSimpArgs false
set_option linter.unusedVariables false
set_option maxRecDepth 10000
set_option maxHeartbeats 2000000
namespace Go.Ideal.J
open Go Go.Ideal
end Go.Ideal.J
set_option linter.unusedSimpArgs false
set_option linter.unusedVariables false
set_option maxRecDepth 10000
set_option maxHeartbeats 2000000
namespace Go.Ideal.J
open Go Go.Ideal
theorem FV.one {B : Nat → Prop} {h : H} {op lab : Int} {f : Fml} {r : List Value} {b e : Nat} (hf : FV B h f r) (hg : h.get b = some (.cells r e)) (hlt : b < h.next) (hB : B b) : FV B h (.mk op lab [f]) (fmL op lab (.slice (some ⟨b, 0, none⟩) 1 1)) := by
  obtain ⟨_, _, _, _, _, _, h1, h2, _⟩ := hf.cells
  unfold FV
  refine ⟨_, [r], rfl, ?_, fun b' o n c e => by cases e; exact hB, by simp, ?_⟩
  · have := Grow.full (h := h) (sz := 3) (b := b) (e := e) (rows := [r]) hlt (by simpa using hg) (by intro x hx; rw [List.mem_singleton] at hx; subst hx; exact ⟨h1, h2⟩) (by show 1 < openCap; decide)
    exact this.row (by omega)
  · unfold FVs
    exact ⟨r, [], rfl, hf, by unfold FVs; rfl⟩
end Go.Ideal.J
set_option linter.unusedSimpArgs false
set_option linter.unusedVariables false
set_option maxRecDepth 10000
set_option maxHeartbeats 2000000
namespace Go.Ideal.J
open Go Go.Ideal
end Go.Ideal.J
set_option linter.unusedSimpArgs false
set_option linter.unusedVariables false
set_option maxRecDepth 10000
set_option maxHeartbeats 2000000
namespace Go.Ideal.J
open Go Go.Ideal
def isSt (st lb : Int) (es : List Ed) (a : Int) : Bool := chk st lb es && decide (0 ≤ a) && decide (a < st)
theorem isState_ok (st lb : Int) (es : List Ed) (sl : Value) (a : Int) (h : H) (hrow : Row h 3 sl (es.map edL)) : ∃ h', callI F (fnV n_judge_isState) [gV st lb sl, .int .i64 a] h = some (.bool (isSt st lb es a), h') ∧ Fr h h' := by
  have hv := hrow.slvM
  obtain ⟨h2, eh2⟩ : ∃ h2, h2 = h.new (.cells (gL st lb sl) 0) := ⟨_, rfl⟩
  have hf2 : Fr h h2 := by rw [eh2]; exact .new _ _
  have g0 : h2.get h.next = some (.cells (gL st lb sl) 0) := by rw [eh2]; simp
  have hn2 : h2.next = h.next + 1 := by rw [eh2]; simp
  obtain ⟨h3, e3, hf3⟩ := judgeCheck_ok st lb sl es h2 (hrow.fr hf2)
  have g03 := (hf3.get _ (by omega)).trans g0
  refine ⟨h3, call_fn F_judge_isState 2 (by decide) ?_, hf2.trans hf3⟩
  rw [s_judge_isState]
  unfold isSt
  cases hc : chk st lb es with
  | false =>
    rw [hc] at e3
    simp (disch := first | omega | (simp only [new_next, put_next]; done) | (simp only [new_next, put_next]; omega)) [↓k2_val, ↓br_true, ↓br_false, hv.clean, hv.take, ← eh2, g0, e3, erk]
  | true =>
    rw [hc] at e3
    by_cases c1 : 0 ≤ a
    · by_cases c2 : a < st
      · simp (disch := first | omega | (simp only [new_next, put_next]; done) | (simp only [new_next, put_next]; omega)) [↓k2_val, ↓br_true, ↓br_false, hv.clean, hv.take, ← eh2, g0, e3, erk, g03, c1, c2]
      · simp (disch := first | omega | (simp only [new_next, put_next]; done) | (simp only [new_next, put_next]; omega)) [↓k2_val, ↓br_true, ↓br_false, hv.clean, hv.take, ← eh2, g0, e3, erk, g03, c1, c2]
    · simp (disch := first | omega | (simp only [new_next, put_next]; done) | (simp only [new_next, put_next]; omega)) [↓k2_val, ↓br_true, ↓br_false, hv.clean, hv.take, ← eh2, g0, e3, erk, g03, c1]
def zF : Fml := .mk 0 0 []
theorem FV.zero (B : Nat → Prop) (h : H) : FV B h zF (fmL 0 0 (.slice none 0 0)) := by
  unfold zF FV
  exact ⟨_, [], rfl, .nil, (fun b o n c e => by cases e), by simp, by unfold FVs; rfl⟩
end Go.Ideal.J
set_option linter.unusedSimpArgs false
set_option linter.unusedVariables false
set_option maxRecDepth 10000
set_option maxHeartbeats 2000000
namespace Go.Ideal.J
open Go Go.Ideal
theorem szs_at : ∀ {fs : List Fml} {i : Nat} {f : Fml}, fs[i]? = some f → sz f ≤ szs fs
  | [], i, f, h => by simp at h
  | g :: fs, 0, f, h => by simp at h; subst h; simp [szs]
  | g :: fs, i + 1, f, h => by have := szs_at (by simpa using h : fs[i]? = some f); simp only [szs]; omega
end Go.Ideal.J
set_option linter.unusedSimpArgs false
set_option linter.unusedVariables false
set_option maxRecDepth 10000
set_option maxHeartbeats 2000000
namespace Go.Ideal.J
open Go Go.Ideal
theorem vNil_eq (b o : Nat) (s : Option Nat) (h : H) : vNil (.pointer (some ⟨b, o, s⟩)) h = some (.pointer (some ⟨b, o, s⟩), h) := id rfl
end Go.Ideal.J
set_option linter.unusedSimpArgs false
set_option linter.unusedVariables false
set_option maxRecDepth 10000
set_option maxHeartbeats 2000000
namespace Go.Ideal.J
open Go Go.Ideal
end Go.Ideal.J
set_option linter.unusedSimpArgs false
set_option linter.unusedVariables false
set_option maxRecDepth 10000
set_option maxHeartbeats 2000000
namespace Go.Ideal.J
open Go Go.Ideal
end Go.Ideal.J
set_option linter.unusedSimpArgs false
set_option linter.unusedVariables false
set_option maxRecDepth 10000
set_option maxHeartbeats 2000000
namespace Go.Ideal.J
open Go Go.Ideal
end Go.Ideal.J
set_option linter.unusedSimpArgs false
set_option linter.unusedVariables false
set_option maxRecDepth 10000
set_option maxHeartbeats 2000000
namespace Go.Ideal.J
open Go Go.Ideal
/-! ### Formulas that came in -/
mutual
def FW (h : H) : Fml → List Value → Prop
  | .mk op lab ks, r => ∃ slv rows, r = fmL op lab slv ∧ Row h 3 slv rows ∧ FWs h ks rows
def FWs (h : H) : List Fml → List (List Value) → Prop
  | [], rows => rows = []
  | k :: ks, rows => ∃ r rs, rows = r :: rs ∧ FW h k r ∧ FWs h ks rs
end
mutual
theorem FW.fr {h h' : H} (hf' : Fr h h') : ∀ {f : Fml} {r : List Value}, FW h f r → FW h' f r
  | .mk op lab ks, r, hf => by
    unfold FW at hf ⊢
    obtain ⟨slv, rows, h1, h2, h3⟩ := hf
    exact ⟨slv, rows, h1, h2.fr hf', FWs.fr hf' h3⟩
theorem FWs.fr {h h' : H} (hf' : Fr h h') : ∀ {fs : List Fml} {rs : List (List Value)}, FWs h fs rs → FWs h' fs rs
  | [], rs, hf => by unfold FWs at hf ⊢; exact hf
  | f :: fs, rs, hf => by
    unfold FWs at hf ⊢
    obtain ⟨r, rs', h1, h2, h3⟩ := hf
    exact ⟨r, rs', h1, FW.fr hf' h2, FWs.fr hf' h3⟩
end
theorem FWs.len {h : H} : ∀ {fs : List Fml} {rs : List (List Value)}, FWs h fs rs → rs.length = fs.length
  | [], rs, hf => by unfold FWs at hf; rw [hf]; rfl
  | f :: fs, rs, hf => by
    unfold FWs at hf
    obtain ⟨r, rs', rfl, h2, h3⟩ := hf
    rw [List.length_cons, List.length_cons, FWs.len h3]
theorem FWs.at {h : H} : ∀ {fs : List Fml} {rs : List (List Value)}, FWs h fs rs → ∀ {i : Nat} {f : Fml}, fs[i]? = some f → ∃ r, rs[i]? = some r ∧ FW h f r
  | [], rs, hf, i, f, hi => by simp at hi
  | g :: fs, rs, hf, i, f, hi => by
    unfold FWs at hf
    obtain ⟨r, rs', rfl, h2, h3⟩ := hf
    cases i with
    | zero => simp at hi; subst hi; exact ⟨r, rfl, h2⟩
    | succ i => exact FWs.at h3 (by simpa using hi)
theorem FW.cells {h : H} {f : Fml} {r : List Value} (hf : FW h f r) : ∃ op lab bs n c, r = fmL op lab (.slice bs n c) := by
  cases f with
  | mk op lab ks =>
    unfold FW at hf
    obtain ⟨slv, rows, rfl, h2, h3⟩ := hf
    obtain ⟨b, c, rfl⟩ := h2.len
    exact ⟨op, lab, b, _, c, rfl⟩
/-! ### Which are formed -/
def opOk (lb op lab : Int) (n : Nat) : Bool := (decide (op = 1) && decide (n = 0) && decide (lab = 0)) || (decide (op = 2) && decide (n = 1) && decide (lab = 0)) || (decide (op = 3) && decide (lab = 0)) || (decide (op = 4) && decide (n = 1) && decide (0 ≤ lab) && decide (lab < lb))
mutual
def fmd (lb : Int) : Fml → Int → Bool × Int
  | .mk op lab ks, L => if L - 1 < 0 then (false, L - 1) else if opOk lb op lab ks.length then fmds lb ks (L - 1) else (false, L - 1)
def fmds (lb : Int) : List Fml → Int → Bool × Int
  | [], L => (true, L)
  | k :: ks, L => if (fmd lb k L).1 then fmds lb ks (fmd lb k L).2 else (false, (fmd lb k L).2)
end
mutual
theorem fmd_lt (lb : Int) : ∀ (f : Fml) (L : Int), (fmd lb f L).2 ≤ L - 1 ∧ ((fmd lb f L).1 = true → 0 ≤ (fmd lb f L).2)
  | .mk op lab ks, L => by
    unfold fmd
    split
    · exact ⟨Int.le_refl _, by simp⟩
    · split
      · have := fmds_le lb ks (L - 1)
        exact ⟨this.1, this.2 (by omega)⟩
      · exact ⟨Int.le_refl _, by simp⟩
theorem fmds_le (lb : Int) : ∀ (fs : List Fml) (L : Int), (fmds lb fs L).2 ≤ L ∧ (0 ≤ L → (fmds lb fs L).1 = true → 0 ≤ (fmds lb fs L).2)
  | [], L => by unfold fmds; exact ⟨Int.le_refl _, fun h _ => h⟩
  | f :: fs, L => by
    unfold fmds
    have h1 := fmd_lt lb f L
    split
    · rename_i c
      have h2 := fmds_le lb fs (fmd lb f L).2
      exact ⟨by omega, fun _ => h2.2 (h1.2 c)⟩
    · exact ⟨by omega, by simp⟩
end
end Go.Ideal.J
set_option linter.unusedSimpArgs false
set_option linter.unusedVariables false
set_option maxRecDepth 10000
set_option maxHeartbeats 2000000
namespace Go.Ideal.J
open Go Go.Ideal
theorem jformed_ok (es : List Ed) (st lb : Int) (hlb : 1 ≤ lb) (sl : Value) (pl : Nat) (h0 : H) (hrow : Row h0 3 sl (es.map edL)) (hpl : h0.next ≤ pl) :
    ∀ (n : Nat) (f : Fml) (r : List Value) (h : H) (L : Int), FW h0 f r → Fr h0 h → pl < h.next → h.get pl = some (.cells [.int .i64 L] 0) → 0 ≤ L → L < n → L ≤ 3000 →
      ∃ h', callI F (fnV n_judge_formed) [gV st lb sl, .agg ⟨r⟩, ptr pl] h = some (.bool (fmd lb f L).1, h') ∧ FrD (fun j => j = pl) h h' ∧ h'.get pl = some (.cells [.int .i64 (fmd lb f L).2] 0) := by
  intro n
  induction n with
  | zero => intro f r h L _ _ _ _ h1 h2; omega
  | succ n ih =>
    intro f r h L hfw hf0 hpn gpl hL0 hLn hL3
    cases f with
    | mk op lab ks =>
    unfold FW at hfw
    obtain ⟨slv, rows, rfl, hkr, hks⟩ := hfw
    have hkl := FWs.len hks
    have hkv := hkr.slv
    rw [hkl] at hkv
    have hsv := hrow.slvM
    suffices hr : Ret F (fnV n_judge_formed) [gV st lb sl, .agg ⟨fmL op lab slv⟩, ptr pl] h fun v h' => v = .bool (fmd lb (.mk op lab ks) L).1 ∧ FrD (fun j => j = pl) h h' ∧ h'.get pl = some (.cells [.int .i64 (fmd lb (.mk op lab ks) L).2] 0) by
      obtain ⟨v, h', e, rfl, q1, q2⟩ := hr; exact ⟨h', e, q1, q2⟩
    obtain ⟨P, hPd⟩ : ∃ P : Value → H → Prop, P = fun v h' => v = .bool (fmd lb (.mk op lab ks) L).1 ∧ FrD (fun j => j = pl) h h' ∧ h'.get pl = some (.cells [.int .i64 (fmd lb (.mk op lab ks) L).2] 0) := ⟨_, rfl⟩
    rw [← hPd]
    refine Ret.fn F_judge_formed 3 (by decide) ?_
    rw [s_judge_formed]
    have hfn0 := hf0.next
    obtain ⟨q, eq⟩ : ∃ q, q = h.next := ⟨_, rfl⟩
    obtain ⟨h1, eh1⟩ : ∃ h1, h1 = (h.new (.cells (gL st lb sl) 0)).new (.cells (fmL op lab slv) 0) := ⟨_, rfl⟩
    have hf1 : Fr h h1 := by rw [eh1]; exact (Fr.new _ _).newR _
    have hn1 : h1.next = q + 2 := by rw [eh1, eq]; simp
    have g01 : h1.get q = some (.cells (gL st lb sl) 0) := by rw [eh1, eq]; simp (disch := omega)
    have g11 : h1.get (q + 1) = some (.cells (fmL op lab slv) 0) := by rw [eh1, eq]; simp (disch := omega)
    have gpl1 := (hf1.get _ hpn).trans gpl
    obtain ⟨h2, eh2⟩ : ∃ h2, h2 = h1.put pl (.cells [.int .i64 (L - 1)] 0) := ⟨_, rfl⟩
    have hf2 : FrD (fun j => j = pl) h1 h2 := by rw [eh2]; exact (FrD.refl (fun j => j = pl) _).put (.inr rfl) _
    have hn2 : h2.next = h1.next := by rw [eh2]; simp
    have g0 := (hf2.get _ (by omega) (by omega)).trans g01
    have g1 := (hf2.get _ (by omega) (by omega)).trans g11
    have gpl2 : h2.get pl = some (.cells [.int .i64 (L - 1)] 0) := by rw [eh2, get_put_eq rfl]
    have hfh2 : FrD (fun j => j = pl) h h2 := hf1.D.trans hf2
    by_cases cL : L - 1 < 0
    · refine OkV.eq (OkV.val (v := .bool false) (h := h2) (by
        rw [hPd]; unfold fmd; rw [if_pos cL]; exact ⟨rfl, hfh2, gpl2⟩)) ?_
      simp (disch := first | omega | (simp only [new_next, put_next]; done) | (simp only [new_next, put_next]; omega)) [↓k2_val, ↓br_true, ↓br_false, hsv.clean, hsv.take, hkv.clean, ← eq, ← eh1, vNil_eq, gpl1, i64_sub, ← eh2, gpl2, cL]
    · have bad : opOk lb op lab ks.length = false → OkV (some (Out.val (.bool false) h2)) P := fun ho => OkV.val (by
        rw [hPd]; unfold fmd; rw [if_neg cL, ho]; exact ⟨rfl, hfh2, gpl2⟩)
      -- the kids
      have kids : opOk lb op lab ks.length = true → OkV (sh (rI F) c_judge_formed_3 (K_judge_formed_3 (rI F)) (setL [p2, p3, p59, p60, p61] [ptr pl, ptr q, slv, .int .i64 (ks.length : Int), .int .i64 0]) h2) P := by
        intro ho
        have hres : fmd lb (.mk op lab ks) L = fmds lb ks (L - 1) := by
          conv => lhs; unfold fmd
          rw [if_neg cL, if_pos ho]
        have loop : ∀ (m i : Nat) (h3 : H) (L' : Int), i + m = ks.length → FrD (fun j => j = pl) h2 h3 → h3.get pl = some (.cells [.int .i64 L'] 0) → 0 ≤ L' → i + L' ≤ 3000 → L' ≤ L - 1 → fmds lb ks (L - 1) = fmds lb (ks.drop i) L' →
            OkV (sh (rI F) c_judge_formed_3 (K_judge_formed_3 (rI F)) (setL [p2, p3, p59, p60, p61] [ptr pl, ptr q, slv, .int .i64 (ks.length : Int), .int .i64 (i : Int)]) h3) P := by
          intro m
          induction m with
          | zero =>
            intro i h3 L' hi hf gp hL' hiL hLL hd
            have e : i = ks.length := by omega
            subst e
            rw [List.drop_length] at hd
            refine OkV.eq (OkV.val (v := .bool true) (h := h3) (by
              rw [hPd, hres, hd]; unfold fmds; exact ⟨rfl, hfh2.trans hf, gp⟩)) ?_
            rw [s_judge_formed_3]
            simp (disch := first | omega | (simp only [new_next, put_next]; done) | (simp only [new_next, put_next]; omega)) [↓k2_val, ↓br_true, ↓br_false, s_judge_formed_2]
          | succ m ihm =>
            intro i h3 L' hi hf gp hL' hiL hLL hd
            have hil : i < ks.length := by omega
            have hfn := hf.next
            have hki : ks[i]? = some ks[i] := List.getElem?_eq_getElem hil
            obtain ⟨ra, ea, fa⟩ := FWs.at hks hki
            have hdr : ks.drop i = ks[i] :: ks.drop (i + 1) := List.drop_eq_getElem_cons hil
            rw [hdr] at hd
            have hF03 : Fr h0 h3 := ⟨by omega, fun j hj => by
              rw [hf.get _ (by omega) (by omega), hfh2.get _ (by omega) (by omega)]; exact hf0.get _ hj⟩
            obtain ⟨x1, o1, cs1, u1, hv1, _, hg1, ht1⟩ := (hkr.fr hF03).index ea
            have g03 := (hf.get _ (by omega) (by omega)).trans g0
            obtain ⟨op', lab', bs', nn', cc', era⟩ := fa.cells
            obtain ⟨h4, eh4⟩ : ∃ h4, h4 = h3.new (.cells ra 0) := ⟨_, rfl⟩
            have hf4 : Fr h3 h4 := by rw [eh4]; exact .new _ _
            have hn4 : h4.next = h3.next + 1 := by rw [eh4]; simp
            have g04 := (hf4.get _ (by omega)).trans g03
            have gr4 : h4.get h3.next = some (.cells ra 0) := by rw [eh4]; simp
            have gp4 := (hf4.get _ (by omega)).trans gp
            obtain ⟨h5, e5, hf5, gp5⟩ := ih ks[i] ra h4 L' fa (hF03.trans hf4) (by omega) gp4 hL' (by omega) (by omega)
            have hlt := fmd_lt lb ks[i] L'
            rw [s_judge_formed_3]
            cases hc : (fmd lb ks[i] L').1 with
            | false =>
              rw [hc] at e5
              refine OkV.eq (OkV.val (v := .bool false) (h := h5) (by
                rw [hPd, hres, hd]; unfold fmds; rw [hc]
                exact ⟨rfl, ((hfh2.trans hf).trans hf4.D).trans hf5, gp5⟩)) ?_
              subst era
              simp (disch := first | omega | (simp only [new_next, put_next]; done) | (simp only [new_next, put_next]; omega)) [↓k2_val, ↓br_true, ↓br_false, hil, hv1, hg1, ht1, ← eh4, g04, hsv.clean, hsv.take, gr4, e5]
            | true =>
              rw [hc] at e5
              have := ihm (i + 1) h5 (fmd lb ks[i] L').2 (by omega) ((hf.trans hf4.D).trans hf5) gp5 (hlt.2 hc) (by omega) (by omega) (by
                rw [hd]; conv => lhs; unfold fmds
                rw [hc]; rfl)
              refine OkV.eq (this.lp (l_judge_formed_3 F _ _ _ _ _ _)) ?_
              subst era
              simp (disch := first | omega | (simp only [new_next, put_next]; done) | (simp only [new_next, put_next]; omega)) [↓k2_val, ↓br_true, ↓br_false, hil, hv1, hg1, ht1, ← eh4, g04, hsv.clean, hsv.take, gr4, e5, i64_add]
        exact loop ks.length 0 h2 (L - 1) (by omega) (.refl _ _) gpl2 (by omega) (by omega) (Int.le_refl _) (by rw [List.drop_zero])
      have kidsL := fun ho => (kids ho).lp (l_judge_formed_3 F _ _ _ _ _ _)
      have cn : ∀ m : Nat, ((ks.length : Int) = (m : Int)) ↔ ks.length = m := fun m => by omega
      by_cases ho : opOk lb op lab ks.length = true
      · refine OkV.eq (kidsL ho) ?_
        unfold opOk at ho
        simp only [Bool.or_eq_true, Bool.and_eq_true, decide_eq_true_eq] at ho
        rcases ho with ((⟨⟨rfl, hn⟩, rfl⟩ | ⟨⟨rfl, hn⟩, rfl⟩) | ⟨rfl, rfl⟩) | ⟨⟨⟨rfl, hn⟩, hl1⟩, hl2⟩
        · simp (disch := first | omega | (simp only [new_next, put_next]; done) | (simp only [new_next, put_next]; omega)) [↓k2_val, ↓br_true, ↓br_false, hsv.clean, hsv.take, hkv.clean, hkv.one, hkv.take, hkv.len, ← eq, ← eh1, vNil_eq, gpl1, i64_sub, ← eh2, gpl2, cL, g0, g1, s_judge_formed_0, s_judge_formed_1, hn, hlb]
        · simp (disch := first | omega | (simp only [new_next, put_next]; done) | (simp only [new_next, put_next]; omega)) [↓k2_val, ↓br_true, ↓br_false, hsv.clean, hsv.take, hkv.clean, hkv.one, hkv.take, hkv.len, ← eq, ← eh1, vNil_eq, gpl1, i64_sub, ← eh2, gpl2, cL, g0, g1, s_judge_formed_0, s_judge_formed_1, hn, hlb]
        · simp (disch := first | omega | (simp only [new_next, put_next]; done) | (simp only [new_next, put_next]; omega)) [↓k2_val, ↓br_true, ↓br_false, hsv.clean, hsv.take, hkv.clean, hkv.one, hkv.take, hkv.len, ← eq, ← eh1, vNil_eq, gpl1, i64_sub, ← eh2, gpl2, cL, g0, g1, s_judge_formed_0, s_judge_formed_1, hlb]
        · by_cases hl0 : lab = 0
          · subst hl0
            simp (disch := first | omega | (simp only [new_next, put_next]; done) | (simp only [new_next, put_next]; omega)) [↓k2_val, ↓br_true, ↓br_false, hsv.clean, hsv.take, hkv.clean, hkv.one, hkv.take, hkv.len, ← eq, ← eh1, vNil_eq, gpl1, i64_sub, ← eh2, gpl2, cL, g0, g1, s_judge_formed_0, s_judge_formed_1, hn, hl2]
          · simp (disch := first | omega | (simp only [new_next, put_next]; done) | (simp only [new_next, put_next]; omega)) [↓k2_val, ↓br_true, ↓br_false, hsv.clean, hsv.take, hkv.clean, hkv.one, hkv.take, hkv.len, ← eq, ← eh1, vNil_eq, gpl1, i64_sub, ← eh2, gpl2, cL, g0, g1, s_judge_formed_0, s_judge_formed_1, hn, hl1, hl2, hl0]
      · have hb := bad (by rw [Bool.eq_false_iff]; exact ho)
        refine OkV.eq hb ?_
        by_cases c1 : op = 1
        · subst c1
          by_cases hn : ks.length = 0
          · have hl : ¬ lab = 0 := fun e => ho (by simp [opOk, hn, e])
            simp (disch := first | omega | (simp only [new_next, put_next]; done) | (simp only [new_next, put_next]; omega)) [↓k2_val, ↓br_true, ↓br_false, hsv.clean, hsv.take, hkv.clean, hkv.one, hkv.take, hkv.len, ← eq, ← eh1, vNil_eq, gpl1, i64_sub, ← eh2, gpl2, cL, g0, g1, s_judge_formed_0, s_judge_formed_1, hn, hl]
          · have hn' : ¬ ((ks.length : Nat) : Int) = 0 := by omega
            simp (disch := first | omega | (simp only [new_next, put_next]; done) | (simp only [new_next, put_next]; omega)) [↓k2_val, ↓br_true, ↓br_false, hsv.clean, hsv.take, hkv.clean, hkv.one, hkv.take, hkv.len, ← eq, ← eh1, vNil_eq, gpl1, i64_sub, ← eh2, gpl2, cL, g0, g1, s_judge_formed_0, s_judge_formed_1, hn, hn']
        · by_cases c2 : op = 2
          · subst c2
            by_cases hn : ks.length = 1
            · have hl : ¬ lab = 0 := fun e => ho (by simp [opOk, hn, e])
              simp (disch := first | omega | (simp only [new_next, put_next]; done) | (simp only [new_next, put_next]; omega)) [↓k2_val, ↓br_true, ↓br_false, hsv.clean, hsv.take, hkv.clean, hkv.one, hkv.take, hkv.len, ← eq, ← eh1, vNil_eq, gpl1, i64_sub, ← eh2, gpl2, cL, g0, g1, s_judge_formed_0, s_judge_formed_1, hn, hl]
            · have hn' : ¬ ((ks.length : Nat) : Int) = 1 := by omega
              simp (disch := first | omega | (simp only [new_next, put_next]; done) | (simp only [new_next, put_next]; omega)) [↓k2_val, ↓br_true, ↓br_false, hsv.clean, hsv.take, hkv.clean, hkv.one, hkv.take, hkv.len, ← eq, ← eh1, vNil_eq, gpl1, i64_sub, ← eh2, gpl2, cL, g0, g1, s_judge_formed_0, s_judge_formed_1, hn, hn']
          · by_cases c4 : op = 4
            · subst c4
              by_cases hn : ks.length = 1
              · by_cases hl1 : lab < 0
                · have hl0 : ¬ lab = 0 := by omega
                  simp (disch := first | omega | (simp only [new_next, put_next]; done) | (simp only [new_next, put_next]; omega)) [↓k2_val, ↓br_true, ↓br_false, hsv.clean, hsv.take, hkv.clean, hkv.one, hkv.take, hkv.len, ← eq, ← eh1, vNil_eq, gpl1, i64_sub, ← eh2, gpl2, cL, g0, g1, s_judge_formed_0, s_judge_formed_1, hn, hl1, hl0]
                · have hl2 : lb ≤ lab := by
                    by_cases h : lab < lb
                    · exact absurd (by simp [opOk, hn, h]; omega) ho
                    · omega
                  have hl0 : ¬ lab = 0 := by omega
                  simp (disch := first | omega | (simp only [new_next, put_next]; done) | (simp only [new_next, put_next]; omega)) [↓k2_val, ↓br_true, ↓br_false, hsv.clean, hsv.take, hkv.clean, hkv.one, hkv.take, hkv.len, ← eq, ← eh1, vNil_eq, gpl1, i64_sub, ← eh2, gpl2, cL, g0, g1, s_judge_formed_0, s_judge_formed_1, hn, hl1, hl2, hl0]
              · have hn' : ¬ ((ks.length : Nat) : Int) = 1 := by omega
                simp (disch := first | omega | (simp only [new_next, put_next]; done) | (simp only [new_next, put_next]; omega)) [↓k2_val, ↓br_true, ↓br_false, hsv.clean, hsv.take, hkv.clean, hkv.one, hkv.take, hkv.len, ← eq, ← eh1, vNil_eq, gpl1, i64_sub, ← eh2, gpl2, cL, g0, g1, s_judge_formed_0, s_judge_formed_1, hn, hn']
            · by_cases c3 : op = 3
              · subst c3
                have hl : ¬ lab = 0 := fun e => ho (by simp [opOk, e])
                simp (disch := first | omega | (simp only [new_next, put_next]; done) | (simp only [new_next, put_next]; omega)) [↓k2_val, ↓br_true, ↓br_false, hsv.clean, hsv.take, hkv.clean, hkv.one, hkv.take, hkv.len, ← eq, ← eh1, vNil_eq, gpl1, i64_sub, ← eh2, gpl2, cL, g0, g1, s_judge_formed_0, s_judge_formed_1, hl]
              · simp (disch := first | omega | (simp only [new_next, put_next]; done) | (simp only [new_next, put_next]; omega)) [↓k2_val, ↓br_true, ↓br_false, hsv.clean, hsv.take, hkv.clean, hkv.one, hkv.take, hkv.len, ← eq, ← eh1, vNil_eq, gpl1, i64_sub, ← eh2, gpl2, cL, g0, g1, s_judge_formed_0, s_judge_formed_1, c1, c2, c3, c4]
end Go.Ideal.J
set_option linter.unusedSimpArgs false
set_option linter.unusedVariables false
set_option maxRecDepth 10000
set_option maxHeartbeats 2000000
namespace Go.Ideal.J
open Go Go.Ideal
/-! ### What holds where -/
mutual
def hv (es : List Ed) : Fml → Int → Bool
  | .mk op lab ks, s => if op = 2 then !(hvh es ks s) else if op = 4 then es.any fun x => decide (x.1 = s) && (decide (x.2.2 = lab) && hvh es ks x.2.1) else hva es ks s
def hvh (es : List Ed) : List Fml → Int → Bool
  | [], _ => false
  | k :: _, s => hv es k s
def hva (es : List Ed) : List Fml → Int → Bool
  | [], _ => true
  | k :: ks, s => hv es k s && hva es ks s
end
theorem hva_take (es : List Ed) (ks : List Fml) (i : Nat) {k : Fml} (hk : ks[i]? = some k) (s : Int) : hva es (ks.take (i + 1)) s = (hva es (ks.take i) s && hv es k s) := by
  have key : ∀ (l : List Fml) (k : Fml), hva es (l ++ [k]) s = (hva es l s && hv es k s) := by
    intro l k
    induction l with
    | nil => simp [hva]
    | cons a l ih => simp only [List.cons_append, hva, ih, Bool.and_assoc]
  rw [List.take_add_one, hk]
  exact key _ _
/-- a formula of the right form. -/
def wf (lb : Int) (f : Fml) : Prop := ∃ L, L ≤ 3000 ∧ (fmd lb f L).1 = true
theorem wf_kids {lb : Int} {op lab : Int} {ks : List Fml} (h : wf lb (.mk op lab ks)) : opOk lb op lab ks.length = true ∧ (∀ k ∈ ks, wf lb k) ∧ ks.length ≤ 3000 := by
  obtain ⟨L, hL, h⟩ := h
  unfold fmd at h
  split at h
  · cases h
  · rename_i hLn
    split at h
    · rename_i ho
      refine ⟨ho, ?_⟩
      have key : ∀ (ks : List Fml) (L : Int), L ≤ 3000 → 0 ≤ L → (fmds lb ks L).1 = true → (∀ k ∈ ks, wf lb k) ∧ ks.length ≤ L := by
        intro ks
        induction ks with
        | nil => intro L _ h0 _; exact ⟨(fun k hk => by cases hk), by simpa using h0⟩
        | cons a ks ih =>
          intro L hL h0 h
          unfold fmds at h
          split at h
          · rename_i hc
            have h1 := fmd_lt lb a L
            obtain ⟨h2, h3⟩ := ih _ (by omega) (h1.2 hc) h
            refine ⟨fun k hk => ?_, by rw [List.length_cons]; omega⟩
            rcases List.mem_cons.1 hk with rfl | hk
            · exact ⟨L, hL, hc⟩
            · exact h2 k hk
          · cases h
      obtain ⟨h2, h3⟩ := key ks _ (by omega) (by omega) h
      exact ⟨h2, by omega⟩
    · cases h
/-- a row of truths. -/
structure Tru (h : H) (q N : Nat) (t : Int → Bool) : Prop where
  lt : q < h.next
  ex : ∃ bs : List Bool, h.get q = some (.cells (boolsL bs) 0) ∧ bs.length = N ∧ ∀ s : Nat, s < N → bs[s]? = some (t s)
theorem Tru.frD {D : Nat → Prop} {h h' : H} {q N : Nat} {t : Int → Bool} (r : Tru h q N t) (hf : FrD D h h') (hd : ¬ D q) : Tru h' q N t := by
  obtain ⟨bs, h1, h2, h3⟩ := r.ex
  exact ⟨Nat.lt_of_lt_of_le r.lt hf.next, bs, (hf.get _ r.lt hd).trans h1, h2, h3⟩
theorem Tru.fr {h h' : H} {q N : Nat} {t : Int → Bool} (r : Tru h q N t) (hf : Fr h h') : Tru h' q N t := r.frD (D := fun _ => False) hf.D (by simp)
theorem Tru.set {h : H} {q N : Nat} {t : Int → Bool} (r : Tru h q N t) {s : Nat} (hs : s < N) (b : Bool) : ∃ bs : List Bool, h.get q = some (.cells (boolsL bs) 0) ∧ bs[s]? = some (t s) ∧ takeC 1 (dropN s (boolsL bs)) = some [.bool (t s)] ∧ writeAt (boolsL bs) s [.bool b] = some (boolsL (bs.set s b)) ∧ Tru (h.put q (.cells (boolsL (bs.set s b)) 0)) q N (fun c => if c = s then b else t c) := by
  obtain ⟨bs, h1, h2, h3⟩ := r.ex
  refine ⟨bs, h1, h3 s hs, takeC_at (by unfold boolsL; rw [List.getElem?_map, h3 s hs]; rfl) rfl, ?_, by simpa using r.lt, bs.set s b, get_put_eq rfl, by simpa using h2, fun c hc => ?_⟩
  · rw [writeAt_at (by simp [boolsL]; omega)]; simp [boolsL, List.map_set]
  · rw [List.getElem?_set]
    by_cases e : s = c
    · subst e; rw [if_pos rfl, if_pos (by omega), if_pos rfl]
    · rw [if_neg e, if_neg (by omega)]; exact h3 c hc
theorem Tru.congr {h : H} {q N : Nat} {t u : Int → Bool} (r : Tru h q N t) (e : ∀ s : Nat, s < N → t s = u s) : Tru h q N u := by
  obtain ⟨bs, h1, h2, h3⟩ := r.ex
  exact ⟨r.lt, bs, h1, h2, fun s hs => by rw [h3 s hs, e s hs]⟩
end Go.Ideal.J
set_option linter.unusedSimpArgs false
set_option linter.unusedVariables false
set_option maxRecDepth 10000
set_option maxHeartbeats 2000000
namespace Go.Ideal.J
open Go Go.Ideal
theorem slF_len (q n : Nat) (h : H) : bltV h .len [slF q n] = some (.int .i64 (n : Int), h) := id rfl
theorem jh0 (q N : Nat) (h : H) {P : Value → H → Prop} (hP : P (slF q N) h) : OkV (sh (rI F) c_judge_holds_0 (K_judge_holds_0 (rI F)) (setL [p5] [slF q N]) h) P := by
  refine OkV.eq (OkV.val hP) ?_
  rw [s_judge_holds_0]
  simp (disch := first | omega | (simp only [new_next, put_next]; done) | (simp only [new_next, put_next]; omega)) [↓k2_val, ↓br_true, ↓br_false]
theorem jh1 (N : Nat) (hN : N ≤ 1000) (qo qk : Nat) (hne : qo ≠ qk) (u : Int → Bool) (h0 : H) (hk : Tru h0 qk N u) {P : Value → H → Prop}
    (hP : ∀ h', FrD (fun j => j = qo) h0 h' → Tru h' qo N (fun s => !u s) → P (slF qo N) h') :
    ∀ (m i : Nat) (h : H) (t : Int → Bool), i + m = N → FrD (fun j => j = qo) h0 h → Tru h qo N t → (∀ s : Nat, s < i → t s = !u s) →
    OkV (sh (rI F) c_judge_holds_1 (K_judge_holds_1 (rI F)) (setL [p5, p65, p66, p67] [slF qo N, slF qk N, .int .i64 (N : Int), .int .i64 (i : Int)]) h) P := by
  intro m
  induction m with
  | zero =>
    intro i h t hi hf ht hs
    have e : i = N := by omega
    subst e
    rw [s_judge_holds_1]
    refine OkV.eq (jh0 qo i h (hP h hf (ht.congr hs))) ?_
    simp (disch := first | omega | (simp only [new_next, put_next]; done) | (simp only [new_next, put_next]; omega)) [↓k2_val, ↓br_true, ↓br_false]
  | succ m ih =>
    intro i h t hi hf ht hs
    have hiN : i < N := by omega
    obtain ⟨bk, k1, k2, k3⟩ := (hk.frD hf (fun e => hne e.symm)).ex
    have k4 : takeC 1 (dropN i (boolsL bk)) = some [.bool (u i)] := takeC_at (by unfold boolsL; rw [List.getElem?_map, k3 i hiN]; rfl) rfl
    obtain ⟨bo, o1, o2, o3, o4, o5⟩ := ht.set hiN (!u i)
    have := ih (i + 1) _ _ (by omega) (hf.put (.inr rfl) _) o5 (fun s hs' => by
      by_cases e : s = i
      · subst e; simp
      · rw [if_neg (by omega)]; exact hs s (by omega))
    rw [s_judge_holds_1]
    refine OkV.eq (this.lp (l_judge_holds_1 F _ _ _ _ _)) ?_
    simp (disch := first | omega | (simp only [new_next, put_next]; done) | (simp only [new_next, put_next]; omega)) [↓k2_val, ↓br_true, ↓br_false, hiN, k1, k4, o1, o4, i64_add]
theorem jh4 (N : Nat) (hN : N ≤ 1000) (qo pf pg : Nat) (h0 : H) {P : Value → H → Prop}
    (hP : ∀ h', FrD (fun j => j = qo) h0 h' → Tru h' qo N (fun _ => true) → OkV (sh (rI F) c_judge_holds_3 (K_judge_holds_3 (rI F)) (setL [p2, p3, p5] [ptr pg, ptr pf, slF qo N]) h') P) :
    ∀ (m i : Nat) (h : H) (t : Int → Bool), i + m = N → FrD (fun j => j = qo) h0 h → Tru h qo N t → (∀ s : Nat, s < i → t s = true) →
    OkV (sh (rI F) c_judge_holds_4 (K_judge_holds_4 (rI F)) (setL [p2, p3, p5, p22, p23] [ptr pg, ptr pf, slF qo N, .int .i64 (N : Int), .int .i64 (i : Int)]) h) P := by
  intro m
  induction m with
  | zero =>
    intro i h t hi hf ht hs
    have e : i = N := by omega
    subst e
    rw [s_judge_holds_4]
    refine OkV.eq (hP h hf (ht.congr hs)) ?_
    simp (disch := first | omega | (simp only [new_next, put_next]; done) | (simp only [new_next, put_next]; omega)) [↓k2_val, ↓br_true, ↓br_false]
  | succ m ih =>
    intro i h t hi hf ht hs
    have hiN : i < N := by omega
    obtain ⟨bo, o1, o2, o3, o4, o5⟩ := ht.set hiN true
    have := ih (i + 1) _ _ (by omega) (hf.put (.inr rfl) _) o5 (fun s hs' => by
      by_cases e : s = i
      · subst e; simp
      · rw [if_neg (by omega)]; exact hs s (by omega))
    rw [s_judge_holds_4]
    refine OkV.eq (this.lp (l_judge_holds_4 F _ _ _ _ _ _)) ?_
    simp (disch := first | omega | (simp only [new_next, put_next]; done) | (simp only [new_next, put_next]; omega)) [↓k2_val, ↓br_true, ↓br_false, hiN, o1, o4, i64_add]
theorem jh7 (N : Nat) (hN : N ≤ 1000) (qo qk : Nat) (hne : qo ≠ qk) (u t0 : Int → Bool) (pg : Nat) (slv t32 t33 : Value) (h0 : H) (hk : Tru h0 qk N u) {P : Value → H → Prop}
    (hP : ∀ h', FrD (fun j => j = qo) h0 h' → Tru h' qo N (fun s => t0 s && u s) → OkV (sh (rI F) c_judge_holds_6 (K_judge_holds_6 (rI F)) (setL [p2, p5, p31, p32, p33] [ptr pg, slF qo N, slv, t32, t33]) h') P) :
    ∀ (m i : Nat) (h : H) (t : Int → Bool), i + m = N → FrD (fun j => j = qo) h0 h → Tru h qo N t → (∀ s : Nat, s < i → t s = (t0 s && u s)) → (∀ s : Nat, i ≤ s → t s = t0 s) →
    OkV (sh (rI F) c_judge_holds_7 (K_judge_holds_7 (rI F)) (setL [p2, p5, p31, p32, p33, p39, p40, p41] [ptr pg, slF qo N, slv, t32, t33, slF qk N, .int .i64 (N : Int), .int .i64 (i : Int)]) h) P := by
  intro m
  induction m with
  | zero =>
    intro i h t hi hf ht hs hs2
    have e : i = N := by omega
    subst e
    rw [s_judge_holds_7]
    refine OkV.eq (hP h hf (ht.congr hs)) ?_
    simp (disch := first | omega | (simp only [new_next, put_next]; done) | (simp only [new_next, put_next]; omega)) [↓k2_val, ↓br_true, ↓br_false]
  | succ m ih =>
    intro i h t hi hf ht hs hs2
    have hiN : i < N := by omega
    obtain ⟨bk, k1, k2, k3⟩ := (hk.frD hf (fun e => hne e.symm)).ex
    have k4 : takeC 1 (dropN i (boolsL bk)) = some [.bool (u i)] := takeC_at (by unfold boolsL; rw [List.getElem?_map, k3 i hiN]; rfl) rfl
    obtain ⟨bo, o1, o2, o3, o4, o5⟩ := ht.set hiN (t0 i && u i)
    have := ih (i + 1) _ _ (by omega) (hf.put (.inr rfl) _) o5 (fun s hs' => by
      by_cases e : s = i
      · subst e; simp
      · rw [if_neg (by omega)]; exact hs s (by omega)) (fun s hs' => by rw [if_neg (by omega)]; exact hs2 s (by omega))
    have hti := hs2 i (Nat.le_refl _)
    rw [hti] at o3
    rw [s_judge_holds_7]
    refine OkV.eq (this.lp (l_judge_holds_7 F _ _ _ _ _ _ _ _ _)) ?_
    cases hc : t0 i with
    | true => rw [hc] at o3; rw [hc, Bool.true_and] at o4; simp (disch := first | omega | (simp only [new_next, put_next]; done) | (simp only [new_next, put_next]; omega)) [↓k2_val, ↓br_true, ↓br_false, hiN, k1, k4, o1, o3, o4, i64_add, hc]
    | false => rw [hc] at o3; rw [hc, Bool.false_and] at o4; simp (disch := first | omega | (simp only [new_next, put_next]; done) | (simp only [new_next, put_next]; omega)) [↓k2_val, ↓br_true, ↓br_false, hiN, k1, k4, o1, o3, o4, i64_add, hc]
def canT (es : List Ed) (lab : Int) (u : Int → Bool) (s : Int) : Bool := es.any fun x => decide (x.1 = s) && (decide (x.2.2 = lab) && u x.2.1)
theorem jh2 (es : List Ed) (hsz : es.length ≤ 1000) (N : Nat) (hN : N ≤ 1000) (hin : inB (N : Int) es) (qo qk pf : Nat) (hne : qo ≠ qk) (hpf : pf ≠ qo) (op lab : Int) (kv sl : Value) (u : Int → Bool) (h0 : H) (hk : Tru h0 qk N u) (hrow : Row h0 3 sl (es.map edL)) (hsl : ∀ b o n c, sl = .slice (some ⟨b, o, none⟩) n c → b ≠ qo) (gf : h0.get pf = some (.cells (fmL op lab kv) 0)) (hpl : pf < h0.next) {P : Value → H → Prop}
    (hP : ∀ h', FrD (fun j => j = qo) h0 h' → Tru h' qo N (canT es lab u) → P (slF qo N) h') :
    ∀ (m i : Nat) (h : H) (t : Int → Bool), i + m = es.length → FrD (fun j => j = qo) h0 h → Tru h qo N t → (∀ s : Nat, s < N → t s = canT (es.take i) lab u s) →
    OkV (sh (rI F) c_judge_holds_2 (K_judge_holds_2 (rI F)) (setL [p3, p5, p8, p87, p88, p89] [ptr pf, slF qo N, slF qk N, sl, .int .i64 (es.length : Int), .int .i64 (i : Int)]) h) P := by
  intro m
  induction m with
  | zero =>
    intro i h t hi hf ht hs
    have e : i = es.length := by omega
    subst e
    rw [List.take_length] at hs
    rw [s_judge_holds_2]
    refine OkV.eq (jh0 qo N h (hP h hf (ht.congr hs))) ?_
    simp (disch := first | omega | (simp only [new_next, put_next]; done) | (simp only [new_next, put_next]; omega)) [↓k2_val, ↓br_true, ↓br_false]
  | succ m ih =>
    intro i h t hi hf ht hs
    have hil : i < es.length := by omega
    have hfn := hf.next
    have hsv := hrow.slvM
    have htk : es.take (i + 1) = es.take i ++ [es[i]] := by rw [List.take_add_one, List.getElem?_eq_getElem hil]; rfl
    have hxin := hin _ (List.getElem_mem hil)
    obtain ⟨b1, o1, cs1, e1, hv1, hb1, hg1, ht1⟩ := (hrow.frD hf hsl).index (i := i) (r := edL es[i]) (by simp [hil])
    generalize es[i] = x at *
    obtain ⟨x1, x2, x3⟩ := x
    obtain ⟨a, ha⟩ := Int.eq_ofNat_of_zero_le hxin.1
    obtain ⟨b, hb⟩ := Int.eq_ofNat_of_zero_le hxin.2.2.1
    simp only at ha hb hxin
    subst ha; subst hb
    have haN : a < N := by omega
    have hbN : b < N := by omega
    obtain ⟨h1, eh1⟩ : ∃ h1, h1 = h.new (.cells (edL ((a : Int), (b : Int), x3)) 0) := ⟨_, rfl⟩
    have hf1 : Fr h h1 := by rw [eh1]; exact .new _ _
    have hn1 : h1.next = h.next + 1 := by rw [eh1]; simp
    have gx : h1.get h.next = some (.cells (edL ((a : Int), (b : Int), x3)) 0) := by rw [eh1]; simp
    have gf1 := (hf1.get _ (by omega)).trans ((hf.get _ hpl hpf).trans gf)
    obtain ⟨bk, k1, k2, k3⟩ := ((hk.frD hf (fun e => hne e.symm)).fr hf1).ex
    have k4 : takeC 1 (dropN b (boolsL bk)) = some [.bool (u b)] := takeC_at (by unfold boolsL; rw [List.getElem?_map, k3 b hbN]; rfl) rfl
    obtain ⟨bo, q1, q2, q3, q4, q5⟩ := (ht.fr hf1).set haN (t a || (decide (x3 = lab) && u b))
    have := ih (i + 1) _ _ (by omega) (((hf.trans hf1.D)).put (.inr rfl) _) q5 (fun s hs' => by
      have := hs s hs'
      unfold canT at this ⊢
      rw [htk, List.any_append]
      simp only [List.any_cons, List.any_nil, Bool.or_false]
      by_cases e : s = a
      · subst e; rw [if_pos rfl, this]; simp
      · rw [if_neg (by omega), this]
        have : ¬ ((a : Int) = (s : Int)) := by omega
        simp [this])
    rw [s_judge_holds_2]
    refine OkV.eq (this.lp (l_judge_holds_2 F _ _ _ _ _ _ _)) ?_
    cases hc : t a with
    | true =>
      rw [hc] at q3; rw [hc, Bool.true_or] at q4
      simp (disch := first | omega | (simp only [new_next, put_next]; done) | (simp only [new_next, put_next]; omega)) [↓k2_val, ↓br_true, ↓br_false, hil, hv1, hg1, ht1, ← eh1, gx, haN, q1, q3, q4, i64_add, hc]
    | false =>
      rw [hc] at q3; rw [hc, Bool.false_or] at q4
      by_cases c : x3 = lab
      · subst c
        simp only [decide_true, Bool.true_and] at q4
        simp (disch := first | omega | (simp only [new_next, put_next]; done) | (simp only [new_next, put_next]; omega)) [↓k2_val, ↓br_true, ↓br_false, hil, hv1, hg1, ht1, ← eh1, gx, haN, hbN, q1, q3, q4, i64_add, hc, gf1, k1, k4]
      · rw [decide_eq_false c, Bool.false_and] at q4
        simp (disch := first | omega | (simp only [new_next, put_next]; done) | (simp only [new_next, put_next]; omega)) [↓k2_val, ↓br_true, ↓br_false, hil, hv1, hg1, ht1, ← eh1, gx, haN, q1, q3, q4, i64_add, hc, gf1, c]
end Go.Ideal.J
set_option linter.unusedSimpArgs false
set_option linter.unusedVariables false
set_option maxRecDepth 10000
set_option maxHeartbeats 2000000
namespace Go.Ideal.J
open Go Go.Ideal
/-- what a call of holds answers. -/
def HOK (es : List Ed) (N : Nat) (lb : Int) (sl : Value) (n : Nat) : Prop :=
  ∀ (f : Fml) (r : List Value) (h : H), sz f ≤ n → wf lb f → FW h f r → Row h 3 sl (es.map edL) → ∃ h' q, callI F (fnV n_judge_holds) [gV (N : Int) lb sl, .agg ⟨r⟩] h = some (slF q N, h') ∧ Fr h h' ∧ h.next ≤ q ∧ Tru h' q N (hv es f)
theorem jh5 (es : List Ed) (N : Nat) (hN : N ≤ 1000) (lb : Int) (sl : Value) (n : Nat) (hok : HOK es N lb sl n) (ks : List Fml) (hks : ∀ k ∈ ks, wf lb k ∧ sz k ≤ n) (hkl : ks.length ≤ 1000000) (slv : Value) (rows : List (List Value)) (pg qo : Nat) (h0 : H) (hrow : Row h0 3 sl (es.map edL)) (hkr : Row h0 3 slv rows) (hfw : FWs h0 ks rows) (lo : Nat) (hlo : lo ≤ qo) (hf00 : H) (hff : Fr hf00 h0) (hlo0 : hf00.next = lo) (hrow0 : Row hf00 3 sl (es.map edL)) (hkr0 : Row hf00 3 slv rows) (hfw0 : FWs hf00 ks rows) (gg : h0.get pg = some (.cells (gL (N : Int) lb sl) 0)) (hpg : pg < h0.next) (hpo : pg ≠ qo) (hqo : qo < h0.next) {P : Value → H → Prop}
    (hP : ∀ h', FrD (fun j => j = qo) h0 h' → Tru h' qo N (hva es ks) → P (slF qo N) h') :
    ∀ (m i : Nat) (h : H), i + m = ks.length → FrD (fun j => j = qo) h0 h → Tru h qo N (hva es (ks.take i)) →
    OkV (sh (rI F) c_judge_holds_5 (K_judge_holds_5 (rI F)) (setL [p2, p5, p31, p32, p33] [ptr pg, slF qo N, slv, .int .i64 (ks.length : Int), .int .i64 (i : Int)]) h) P := by
  intro m
  induction m with
  | zero =>
    intro i h hi hf ht
    have e : i = ks.length := by omega
    subst e
    rw [List.take_length] at ht
    rw [s_judge_holds_5]
    refine OkV.eq (jh0 qo N h (hP h hf ht)) ?_
    simp (disch := first | omega | (simp only [new_next, put_next]; done) | (simp only [new_next, put_next]; omega)) [↓k2_val, ↓br_true, ↓br_false]
  | succ m ih =>
    intro i h hi hf ht
    have hil : i < ks.length := by omega
    have hfn := hf.next
    have hsv := hrow.slvM
    have hki : ks[i]? = some ks[i] := List.getElem?_eq_getElem hil
    have hF : Fr hf00 h := hff.transD hf (fun j hj hd => by omega)
    obtain ⟨ra, ea, fa⟩ := FWs.at (FWs.fr hF hfw0) hki
    obtain ⟨x1, o1, cs1, u1, hv1, _, hg1, ht1⟩ := (hkr0.fr hF).index ea
    have gg1 := (hf.get _ hpg hpo).trans gg
    obtain ⟨op', lab', bs', nn', cc', era⟩ := fa.cells
    obtain ⟨h4, eh4⟩ : ∃ h4, h4 = h.new (.cells ra 0) := ⟨_, rfl⟩
    have hf4 : Fr h h4 := by rw [eh4]; exact .new _ _
    have hn4 : h4.next = h.next + 1 := by rw [eh4]; simp
    have gg4 := (hf4.get _ (by omega)).trans gg1
    have gr4 : h4.get h.next = some (.cells ra 0) := by rw [eh4]; simp
    have hkm := hks _ (List.getElem_mem hil)
    obtain ⟨h5, qk, e5, hf5, hqk, hT5⟩ := hok ks[i] ra h4 hkm.2 hkm.1 (FW.fr hf4 fa) ((hrow0.fr hF).fr hf4)
    have hta := hva_take es ks i hki
    have := jh7 N hN qo qk (by omega) (hv es ks[i]) (hva es (ks.take i)) pg slv (.int .i64 (ks.length : Int)) (.int .i64 (i : Int)) h5 hT5 (P := P) (fun h' r1 r2 => by
      rw [s_judge_holds_6]
      have := ih (i + 1) h' (by omega) (((hf.trans hf4.D).trans hf5.D).trans r1) (r2.congr fun s _ => (hta s).symm)
      refine OkV.eq (this.lp (l_judge_holds_5 F _ _ _ _ _ _)) ?_
      simp (disch := first | omega | (simp only [new_next, put_next]; done) | (simp only [new_next, put_next]; omega)) [↓k2_val, ↓br_true, ↓br_false, i64_add]) N 0 h5 _ (by omega) (.refl _ _) ((ht.fr hf4).fr hf5) (fun s hs => by omega) (fun s _ => rfl)
    rw [s_judge_holds_5]
    refine OkV.eq (this.lp (l_judge_holds_7 F _ _ _ _ _ _ _ _ _)) ?_
    subst era
    simp (disch := first | omega | (simp only [new_next, put_next]; done) | (simp only [new_next, put_next]; omega)) [↓k2_val, ↓br_true, ↓br_false, hil, hv1, hg1, ht1, ← eh4, gg4, gr4, hsv.clean, hsv.take, e5, slF_len]
theorem jholds_ok (es : List Ed) (hsz : es.length ≤ 1000) (N : Nat) (hN : N ≤ 1000) (hin : inB (N : Int) es) (lb : Int) (sl : Value) : ∀ n, HOK es N lb sl n := by
  intro n
  induction n with
  | zero => intro f r h hf; have := sz_pos f; omega
  | succ n ih =>
    intro f r h hf hwf hfw hrow
    cases f with
    | mk op lab ks =>
    obtain ⟨ho, hkw, hkl3⟩ := wf_kids hwf
    have hszk : szs ks ≤ n := by simp only [sz] at hf; omega
    unfold FW at hfw
    obtain ⟨slv, rows, rfl, hkr, hks⟩ := hfw
    have hkl := FWs.len hks
    have hkv := hkr.slv
    rw [hkl] at hkv
    have hsv := hrow.slvM
    have hkall : ∀ k ∈ ks, wf lb k ∧ sz k ≤ n := fun k hk => ⟨hkw k hk, by
      obtain ⟨i, hi⟩ := List.getElem?_of_mem hk
      have := szs_at hi; omega⟩
    suffices hr : Ret F (fnV n_judge_holds) [gV (N : Int) lb sl, .agg ⟨fmL op lab slv⟩] h fun v h' => ∃ q, v = slF q N ∧ Fr h h' ∧ h.next ≤ q ∧ Tru h' q N (hv es (.mk op lab ks)) by
      obtain ⟨v, h', e, q, rfl, q1, q2, q3⟩ := hr; exact ⟨h', q, e, q1, q2, q3⟩
    obtain ⟨P, hPd⟩ : ∃ P : Value → H → Prop, P = fun v h' => ∃ q, v = slF q N ∧ Fr h h' ∧ h.next ≤ q ∧ Tru h' q N (hv es (.mk op lab ks)) := ⟨_, rfl⟩
    rw [← hPd]
    refine Ret.fn F_judge_holds 2 (by decide) ?_
    rw [s_judge_holds]
    obtain ⟨q, eq⟩ : ∃ q, q = h.next := ⟨_, rfl⟩
    obtain ⟨h1, eh1⟩ : ∃ h1, h1 = (h.new (.cells (gL (N : Int) lb sl) 0)).new (.cells (fmL op lab slv) 0) := ⟨_, rfl⟩
    have hf1 : Fr h h1 := by rw [eh1]; exact (Fr.new _ _).newR _
    have hn1 : h1.next = q + 2 := by rw [eh1, eq]; simp
    have g01 : h1.get q = some (.cells (gL (N : Int) lb sl) 0) := by rw [eh1, eq]; simp (disch := omega)
    have g11 : h1.get (q + 1) = some (.cells (fmL op lab slv) 0) := by rw [eh1, eq]; simp (disch := omega)
    have hmk := make_bools (n := N) hN h1
    rw [hn1, show boolsL (List.replicate N false) = List.replicate N (.bool false) by simp [boolsL]] at hmk
    obtain ⟨h2, eh2⟩ : ∃ h2, h2 = h1.new (.cells (List.replicate N (.bool false)) 0) := ⟨_, rfl⟩
    have hf2 : Fr h1 h2 := by rw [eh2]; exact .new _ _
    have hn2 : h2.next = q + 3 := by rw [eh2, new_next, hn1]
    have g0 := (hf2.get _ (by omega)).trans g01
    have g1 := (hf2.get _ (by omega)).trans g11
    have hT2 : Tru h2 (q + 2) N (fun _ => false) := ⟨by omega, List.replicate N false, by rw [eh2, ← hn1]; simp [boolsL], by simp, fun s hs => by rw [List.getElem?_replicate, if_pos hs]⟩
    have hF2 : Fr h h2 := hf1.trans hf2
    have done : ∀ h', FrD (fun j => j = q + 2) h2 h' → Tru h' (q + 2) N (hv es (.mk op lab ks)) → P (slF (q + 2) N) h' := fun h' r1 r2 => by
      rw [hPd]
      exact ⟨q + 2, rfl, hF2.transD r1 (fun i hi hd => by omega), by omega, r2⟩
    by_cases c2 : op = 2 ∨ op = 4
    · have hlen : ks.length = 1 := by
        unfold opOk at ho
        simp only [Bool.or_eq_true, Bool.and_eq_true, decide_eq_true_eq] at ho
        omega
      match ks, hlen with
      | [k], _ =>
      obtain ⟨ra, ea, fa⟩ := FWs.at (i := 0) (f := k) (FWs.fr hF2 hks) rfl
      obtain ⟨x1, o1, cs1, u1, hv1, _, hg1, ht1⟩ := (hkr.fr hF2).index ea
      rw [show (((0 : Nat) : Int)) = (0 : Int) from rfl] at hv1
      obtain ⟨op', lab', bs', nn', cc', era⟩ := fa.cells
      have hkm := hkall k (by simp)
      obtain ⟨h5, qk, e5, hf5, hqk, hT5⟩ := ih k ra h2 hkm.2 hkm.1 fa (hrow.fr hF2)
      have hfn5 := hf5.next
      have g05 := (hf5.get _ (by omega)).trans g0
      have g15 := (hf5.get _ (by omega)).trans g1
      rcases c2 with rfl | rfl
      · have := jh1 N hN (q + 2) qk (by omega) (hv es k) h5 hT5 (P := P) (fun h' r1 r2 => done h' (hf5.D.trans r1) (r2.congr fun s _ => by simp [hv, hvh])) N 0 h5 _ (by omega) (.refl _ _) (hT2.fr hf5) (fun s hs => by omega)
        refine OkV.eq (this.lp (l_judge_holds_1 F _ _ _ _ _)) ?_
        subst era
        simp (disch := first | omega | (simp only [new_next, put_next]; done) | (simp only [new_next, put_next]; omega)) [↓k2_val, ↓br_true, ↓br_false, hsv.clean, hsv.take, hkv.clean, ← eq, ← eh1, g01, hmk, ← eh2, g0, g1, hkv.one, hkv.take, hv1, hg1, ht1, e5, slF_len]
      · have := jh2 es hsz N hN hin (q + 2) qk (q + 1) (by omega) (by omega) 4 lab slv sl (hv es k) h5 hT5 ((hrow.fr hF2).fr hf5) (fun b o n c e => by have := hrow.lt e; omega) g15 (by omega) (P := P) (fun h' r1 r2 => done h' (hf5.D.trans r1) (r2.congr fun s _ => by simp [hv, hvh, canT])) es.length 0 h5 _ (by omega) (.refl _ _) (hT2.fr hf5) (fun s hs => by simp [canT])
        refine OkV.eq (this.lp (l_judge_holds_2 F _ _ _ _ _ _ _)) ?_
        subst era
        simp (disch := first | omega | (simp only [new_next, put_next]; done) | (simp only [new_next, put_next]; omega)) [↓k2_val, ↓br_true, ↓br_false, hsv.clean, hsv.take, hsv.one, hsv.len, hkv.clean, ← eq, ← eh1, g01, hmk, ← eh2, g0, g1, hkv.one, hkv.take, hv1, hg1, ht1, e5, slF_len, g05]
    · have n2 : ¬ op = 2 := fun e => c2 (.inl e)
      have n4 : ¬ op = 4 := fun e => c2 (.inr e)
      have hkl2 : ks.length ≤ 1000000 := by omega
      have := jh4 N hN (q + 2) (q + 1) q h2 (P := P) (fun h3 r1 r2 => by
        rw [s_judge_holds_3]
        have hfn3 := r1.next
        have g03 := (r1.get _ (by omega) (by omega)).trans g0
        have g13 := (r1.get _ (by omega) (by omega)).trans g1
        have hF3 : Fr h h3 := hF2.transD r1 (fun i hi hd => by omega)
        have := jh5 es N hN lb sl n ih ks hkall hkl2 slv rows q (q + 2) h3 (hrow.fr hF3) (hkr.fr hF3) (FWs.fr hF3 hks) h.next (by omega) h hF3 rfl hrow hkr hks g03 (by omega) (by omega) (by omega) (P := P) (fun h' s1 s2 => done h' (r1.trans s1) (s2.congr fun s _ => by simp [hv, n2, n4])) ks.length 0 h3 (by omega) (.refl _ _) (r2.congr fun s _ => by simp [hva])
        refine OkV.eq (this.lp (l_judge_holds_5 F _ _ _ _ _ _)) ?_
        simp (disch := first | omega | (simp only [new_next, put_next]; done) | (simp only [new_next, put_next]; omega)) [↓k2_val, ↓br_true, ↓br_false, g13, hkv.one, hkv.take, hkv.len]) N 0 h2 _ (by omega) (.refl _ _) hT2 (fun s hs => by omega)
      refine OkV.eq (this.lp (l_judge_holds_4 F _ _ _ _ _ _)) ?_
      simp (disch := first | omega | (simp only [new_next, put_next]; done) | (simp only [new_next, put_next]; omega)) [↓k2_val, ↓br_true, ↓br_false, hsv.clean, hsv.take, hkv.clean, ← eq, ← eh1, g01, hmk, ← eh2, g0, g1, hkv.one, hkv.take, n2, n4, slF_len]
end Go.Ideal.J
