/- A part of the proof: the ideal machine, and what the functions of the program answer over it. -/
import Derived.Test.YtanaepeilcjhcaaD
set_option linter.unusedSimpArgs false
set_option linter.unusedVariables false
noncomputable section
namespace Go.Ideal.J
open Go Go.Ideal
set_option maxRecDepth 100000
set_option linter.unusedVariables false
theorem s_cabotagelaw22_JudgeTells (X : Rn) (t0 t1 t2 : Value) (h : H) : shFunc X 3 f_cabotagelaw22_JudgeTells [t0, t1, t2] h =
    k2 (some (newPtr h (cellsL t0))) fun t3 h1 =>
    k2 (some ((.bool false), h1)) fun t6 h2 =>
    k2 (vLoadN 3 t3 h2) fun t12 h3 =>
    k2 (some (t1, h3)) fun t13 h4 =>
    k2 (some (t2, h4)) fun t14 h5 =>
    k2 (X.call (.func (.func n_judge_Tells) #[] #[]) [t12, t13, t14] h5) fun t15 h6 =>
    k2 (some (t15, h6)) fun t11 h7 =>
    k2 (vExtract 0 t11 h7) fun t16 h8 =>
    k2 (vExtract 1 t11 h8) fun t17 h9 =>
    k2 (some (newPtr h9 [(.int .i64 0), (.int .i64 0), (.slice none 0 0)])) fun t7 h10 =>
    k2 (vStore 3 t7 t16 h10) fun _ h11 =>
    k2 (some (t17, h11)) fun t8 h12 =>
    k2 (vLoadN 3 t3 h12) fun t19 h13 =>
    k2 (some (t1, h13)) fun t20 h14 =>
    k2 (some (t2, h14)) fun t21 h15 =>
    k2 (X.call (.func (.func n_cabotageref22_Tells) #[] #[]) [t19, t20, t21] h15) fun t22 h16 =>
    k2 (some (t22, h16)) fun t18 h17 =>
    k2 (vExtract 0 t18 h17) fun t23 h18 =>
    k2 (vExtract 1 t18 h18) fun t24 h19 =>
    k2 (some (newPtr h19 [(.int .i64 0), (.int .i64 0), (.slice none 0 0)])) fun t9 h20 =>
    k2 (vStore 3 t9 t23 h20) fun _ h21 =>
    k2 (some (t24, h21)) fun t10 h22 =>
    k2 (vLoadN 3 t7 h22) fun t25 h23 =>
    k2 (vLoadN 3 t9 h23) fun t26 h24 =>
    k2 (X.call (.func (.func n_cabotageref22_SameFormula) #[] #[]) [t25, t26] h24) fun t27 h25 =>
    k2 (some (t27, h25)) fun t28 h26 =>
    k2 (gd t28 true h26 (some (t8, h26))) fun t29 h27 =>
    k2 (gd t28 true h27 (some (t10, h27))) fun t30 h28 =>
    k2 (gd t28 true h28 (vBin .eql .other t29 t30 h28)) fun t31 h29 =>
    k2 (vPick t28 t31 (.bool false) h29) fun t32 h30 =>
    k2 (some (t32, h30)) fun t33 h31 =>
    k2 (gd t33 true h31 (X.call (.func (.func n_cabotagelaw22_known) #[] #[]) [] h31)) fun t34 h32 =>
    k2 (vPick t33 t34 (.bool false) h32) fun t35 h33 =>
    k2 (some (t35, h33)) fun t6 h34 =>
    some (.val (tupleOf [t6]) h34) := by kernel_rfl
theorem s_judge_Weak (X : Rn) (t0 : Value) (h : H) : shFunc X 1 f_judge_Weak [t0] h =
    k2 (some (newPtr h (cellsL t0))) fun t1 h1 =>
    k2 (some (newPtr h1 [(.int .i64 0), (.int .i64 0), (.slice none 0 0)])) fun t2 h2 =>
    k2 (some ((.int .i64 0), h2)) fun t3 h3 =>
    k2 (vLoadN 3 t1 h3) fun t5 h4 =>
    k2 (X.call (.func (.func n_judge_Check) #[] #[]) [t5] h4) fun t6 h5 =>
    k2 (vBin .neq .other t6 (.int .i64 0) h5) fun t7 h6 =>
    br t7
      (k2 ((fillL [(.int .i64 0), (.int .i64 0), (.slice none 0 0)] []).map fun c => (Value.agg ⟨c⟩, h6)) fun t8 h7 =>
    k2 (vStore 3 t2 t8 h7) fun _ h8 =>
    k2 (some ((.int .i64 2), h8)) fun t3 h9 =>
    (vRes (some 3) t2 h9).bind fun r0 => some (.val (tupleOf [r0, t3]) h9))
      (k2 (vLoadN 3 t1 h6) fun t9 h10 =>
    k2 (X.call (.func (.func n_judge_weak) #[] #[]) [t9] h10) fun t10 h11 =>
    k2 (some (newPtr h11 [(.int .i64 0), (.int .i64 0), (.slice none 0 0)])) fun t4 h12 =>
    k2 (vStore 3 t4 t10 h12) fun _ h13 =>
    k2 (vField 2 t4 h13) fun t11 h14 =>
    k2 (vLoad1 t11 h14) fun t12 h15 =>
    k2 (bltV h15 .len [t12]) fun t13 h16 =>
    k2 (vBin .gtr .other t13 (.int .i64 400) h16) fun t14 h17 =>
    br t14
      (k2 ((fillL [(.int .i64 0), (.int .i64 0), (.slice none 0 0)] []).map fun c => (Value.agg ⟨c⟩, h17)) fun t15 h18 =>
    k2 (vStore 3 t2 t15 h18) fun _ h19 =>
    k2 (some ((.int .i64 3), h19)) fun t3 h20 =>
    (vRes (some 3) t2 h20).bind fun r0 => some (.val (tupleOf [r0, t3]) h20))
      (k2 (vLoadN 3 t4 h17) fun t16 h21 =>
    k2 (vStore 3 t2 t16 h21) fun _ h22 =>
    k2 (some ((.int .i64 0), h22)) fun t3 h23 =>
    (vRes (some 3) t2 h23).bind fun r0 => some (.val (tupleOf [r0, t3]) h23))) := by kernel_rfl
theorem s_judge_Check_0 (X : Rn) (h : H) : sh X c_judge_Check_0 (K_judge_Check_0 X) (setL [] []) h =
    k2 (some ((.int .i64 0), h)) fun t2 h1 =>
    some (.val (tupleOf [t2]) h1) := by kernel_rfl
theorem s_judge_Check_1 (X : Rn) (t1 t30 t31 t32 : Value) (h : H) : sh X c_judge_Check_1 (K_judge_Check_1 X) (setL [p1, p30, p31, p32] [t1, t30, t31, t32]) h =
    k2 (vBin .lss .other t32 t31 h) fun t33 h1 =>
    br t33
      (k2 (some (t32, h1)) fun t34 h2 =>
    k2 (vIndex 3 t30 t32 h2) fun t35 h3 =>
    k2 (vLoadN 3 t35 h3) fun t36 h4 =>
    k2 (some (newPtr h4 [(.int .i64 0), (.int .i64 0), (.int .i64 0)])) fun t4 h5 =>
    k2 (some (t34, h5)) fun t3 h6 =>
    k2 (vStore 3 t4 t36 h6) fun _ h7 =>
    k2 (vField 0 t4 h7) fun t37 h8 =>
    k2 (rdF (fun b => vLoad1 t37 b) 0 h8 [(0, h7)]) fun t38 h9 =>
    k2 (vField 1 t4 h9) fun t39 h10 =>
    k2 (rdF (fun b => vLoad1 t39 b) 0 h10 [(0, h7)]) fun t40 h11 =>
    k2 (vField 2 t4 h11) fun t41 h12 =>
    k2 (rdF (fun b => vLoad1 t41 b) 0 h12 [(0, h7)]) fun t42 h13 =>
    k2 (bltV h13 .min [t38, t40, t42]) fun t43 h14 =>
    k2 (vBin .lss .other t43 (.int .i64 0) h14) fun t44 h15 =>
    k2 (some (t44, h15)) fun t45 h16 =>
    k2 (gd t45 false h16 (vField 0 t4 h16)) fun t46 h17 =>
    k2 (gd t45 false h17 (rdF (fun b => vLoad1 t46 b) 0 h17 [(0, h7)])) fun t47 h18 =>
    k2 (gd t45 false h18 (vField 1 t4 h18)) fun t48 h19 =>
    k2 (gd t45 false h19 (rdF (fun b => vLoad1 t48 b) 0 h19 [(0, h7)])) fun t49 h20 =>
    k2 (gd t45 false h20 (bltV h20 .max [t47, t49])) fun t50 h21 =>
    k2 (gd t45 false h21 (vField 0 t1 h21)) fun t51 h22 =>
    k2 (gd t45 false h22 (rdF (fun b => vLoad1 t51 b) 0 h22 [(0, h7)])) fun t52 h23 =>
    k2 (gd t45 false h23 (vBin .geq .other t50 t52 h23)) fun t53 h24 =>
    k2 (vPick t45 (.bool true) t53 h24) fun t54 h25 =>
    k2 (some (t54, h25)) fun t55 h26 =>
    k2 (gd t55 false h26 (vField 2 t4 h26)) fun t56 h27 =>
    k2 (gd t55 false h27 (rdF (fun b => vLoad1 t56 b) 0 h27 [(0, h7)])) fun t57 h28 =>
    k2 (gd t55 false h28 (vField 1 t1 h28)) fun t58 h29 =>
    k2 (gd t55 false h29 (rdF (fun b => vLoad1 t58 b) 0 h29 [(0, h7)])) fun t59 h30 =>
    k2 (gd t55 false h30 (vBin .geq .other t57 t59 h30)) fun t60 h31 =>
    k2 (vPick t55 (.bool true) t60 h31) fun t61 h32 =>
    k2 (some (t61, h32)) fun t62 h33 =>
    k2 (gd t62 false h33 (some (t3, h33))) fun t63 h34 =>
    k2 (gd t62 false h34 (vBin .gtr .other t63 (.int .i64 0) h34)) fun t64 h35 =>
    k2 (gd t62 false h35 (some (t64, h35))) fun t65 h36 =>
    k2 (gd t65 true h36 (vField 2 t1 h36)) fun t66 h37 =>
    k2 (gd t65 true h37 (rdF (fun b => vLoad1 t66 b) 0 h37 [(0, h7)])) fun t67 h38 =>
    k2 (gd t65 true h38 (some (t3, h38))) fun t68 h39 =>
    k2 (gd t65 true h39 (vBin .sub .other t68 (.int .i64 1) h39)) fun t69 h40 =>
    k2 (gd t65 true h40 (vIndex 3 t67 t69 h40)) fun t70 h41 =>
    k2 (gd t65 true h41 (rdF (fun b => vLoadN 3 t70 b) 0 h41 [(0, h7)])) fun t71 h42 =>
    k2 (gd t65 true h42 (rdF (fun b => vLoadN 3 t4 b) 0 h42 [(0, h7)])) fun t72 h43 =>
    k2 (gd t65 true h43 (X.call (.func (.func n_judge_compare) #[] #[]) [t71, t72] h43)) fun t73 h44 =>
    k2 (gd t65 true h44 (vBin .geq .other t73 (.int .i64 0) h44)) fun t74 h45 =>
    k2 (gd t62 false h45 (vPick t65 t74 (.bool false) h45)) fun t75 h46 =>
    k2 (vPick t62 (.bool true) t75 h46) fun t76 h47 =>
    br t76
      (k2 (some ((.int .i64 2), h47)) fun t2 h48 =>
    some (.val (tupleOf [t2]) h48))
      (k2 (vBin .add .other t32 (.int .i64 1) h47) fun t77 h49 =>
    k2 (some (t77, h49)) fun t32_50 h51 =>
    lp X [p1, p30, p31, p32] c_judge_Check_1 (kBlk 0 (kSeq X c_judge_Check_0 [] (K_judge_Check_0 X))) [t1, t30, t31, t32_50] h51))
      (sh X c_judge_Check_0 (K_judge_Check_0 X) (setL [] []) h1) := by kernel_rfl
theorem l_judge_Check_1 (F : FuncId → Option CFunc) (t1 t30 t31 t32 : Value) (h : H) {r : Out} : let X := rI F; sh X c_judge_Check_1 (K_judge_Check_1 X) (setL [p1, p30, p31, p32] [t1, t30, t31, t32]) h = some r → lp X [p1, p30, p31, p32] c_judge_Check_1 (kBlk 0 (kSeq X c_judge_Check_0 [] (K_judge_Check_0 X))) [t1, t30, t31, t32] h = some r := fun hv => lp_step (by decide) hv
theorem s_judge_Check (X : Rn) (t0 : Value) (h : H) : shFunc X 1 f_judge_Check [t0] h =
    k2 (some (newPtr h (cellsL t0))) fun t1 h1 =>
    k2 (some ((.int .i64 0), h1)) fun t2 h2 =>
    k2 (vField 0 t1 h2) fun t5 h3 =>
    k2 (vLoad1 t5 h3) fun t6 h4 =>
    k2 (vBin .lss .other t6 (.int .i64 1) h4) fun t7 h5 =>
    k2 (some (t7, h5)) fun t8 h6 =>
    k2 (gd t8 false h6 (vField 0 t1 h6)) fun t9 h7 =>
    k2 (gd t8 false h7 (vLoad1 t9 h7)) fun t10 h8 =>
    k2 (gd t8 false h8 (vBin .gtr .other t10 (.int .i64 60) h8)) fun t11 h9 =>
    k2 (vPick t8 (.bool true) t11 h9) fun t12 h10 =>
    k2 (some (t12, h10)) fun t13 h11 =>
    k2 (gd t13 false h11 (vField 1 t1 h11)) fun t14 h12 =>
    k2 (gd t13 false h12 (vLoad1 t14 h12)) fun t15 h13 =>
    k2 (gd t13 false h13 (vBin .lss .other t15 (.int .i64 1) h13)) fun t16 h14 =>
    k2 (vPick t13 (.bool true) t16 h14) fun t17 h15 =>
    k2 (some (t17, h15)) fun t18 h16 =>
    k2 (gd t18 false h16 (vField 1 t1 h16)) fun t19 h17 =>
    k2 (gd t18 false h17 (vLoad1 t19 h17)) fun t20 h18 =>
    k2 (gd t18 false h18 (vBin .gtr .other t20 (.int .i64 41) h18)) fun t21 h19 =>
    k2 (vPick t18 (.bool true) t21 h19) fun t22 h20 =>
    k2 (some (t22, h20)) fun t23 h21 =>
    k2 (gd t23 false h21 (vField 2 t1 h21)) fun t24 h22 =>
    k2 (gd t23 false h22 (vLoad1 t24 h22)) fun t25 h23 =>
    k2 (gd t23 false h23 (bltV h23 .len [t25])) fun t26 h24 =>
    k2 (gd t23 false h24 (vBin .gtr .other t26 (.int .i64 400) h24)) fun t27 h25 =>
    k2 (vPick t23 (.bool true) t27 h25) fun t28 h26 =>
    br t28
      (k2 (some ((.int .i64 2), h26)) fun t2 h27 =>
    some (.val (tupleOf [t2]) h27))
      (k2 (vField 2 t1 h26) fun t29 h28 =>
    k2 (vLoad1 t29 h28) fun t30 h29 =>
    k2 (bltV h29 .len [t30]) fun t31 h30 =>
    k2 (some ((.int .i64 0), h30)) fun t32 h31 =>
    lp X [p1, p30, p31, p32] c_judge_Check_1 (kBlk 0 (kSeq X c_judge_Check_0 [] (K_judge_Check_0 X))) [t1, t30, t31, t32] h31) := by kernel_rfl
theorem s_cabotageref22_Check_0 (X : Rn) (h : H) : sh X c_cabotageref22_Check_0 (K_cabotageref22_Check_0 X) (setL [] []) h =
    k2 (some ((.int .i64 0), h)) fun t2 h1 =>
    some (.val (tupleOf [t2]) h1) := by kernel_rfl
theorem s_cabotageref22_Check_1 (X : Rn) (t1 t3 : Value) (h : H) : sh X c_cabotageref22_Check_1 (K_cabotageref22_Check_1 X) (setL [p1, p3] [t1, t3]) h =
    k2 (some (t3, h)) fun t29 h1 =>
    k2 (vField 2 t1 h1) fun t30 h2 =>
    k2 (vLoad1 t30 h2) fun t31 h3 =>
    k2 (bltV h3 .len [t31]) fun t32 h4 =>
    k2 (vBin .lss .other t29 t32 h4) fun t33 h5 =>
    br t33
      (k2 (vField 2 t1 h5) fun t36 h6 =>
    k2 (vLoad1 t36 h6) fun t37 h7 =>
    k2 (some (t3, h7)) fun t38 h8 =>
    k2 (vIndex 3 t37 t38 h8) fun t39 h9 =>
    k2 (vLoadN 3 t39 h9) fun t40 h10 =>
    k2 (some (newPtr h10 [(.int .i64 0), (.int .i64 0), (.int .i64 0)])) fun t4 h11 =>
    k2 (vStore 3 t4 t40 h11) fun _ h12 =>
    k2 (vField 0 t4 h12) fun t41 h13 =>
    k2 (rdF (fun b => vLoad1 t41 b) 0 h13 [(0, h12)]) fun t42 h14 =>
    k2 (vBin .lss .other t42 (.int .i64 0) h14) fun t43 h15 =>
    k2 (some (t43, h15)) fun t44 h16 =>
    k2 (gd t44 false h16 (vField 0 t4 h16)) fun t45 h17 =>
    k2 (gd t44 false h17 (rdF (fun b => vLoad1 t45 b) 0 h17 [(0, h12)])) fun t46 h18 =>
    k2 (gd t44 false h18 (vField 0 t1 h18)) fun t47 h19 =>
    k2 (gd t44 false h19 (rdF (fun b => vLoad1 t47 b) 0 h19 [(0, h12)])) fun t48 h20 =>
    k2 (gd t44 false h20 (vBin .geq .other t46 t48 h20)) fun t49 h21 =>
    k2 (vPick t44 (.bool true) t49 h21) fun t50 h22 =>
    k2 (some (t50, h22)) fun t51 h23 =>
    k2 (gd t51 false h23 (vField 1 t4 h23)) fun t52 h24 =>
    k2 (gd t51 false h24 (rdF (fun b => vLoad1 t52 b) 0 h24 [(0, h12)])) fun t53 h25 =>
    k2 (gd t51 false h25 (vBin .lss .other t53 (.int .i64 0) h25)) fun t54 h26 =>
    k2 (vPick t51 (.bool true) t54 h26) fun t55 h27 =>
    k2 (some (t55, h27)) fun t56 h28 =>
    k2 (gd t56 false h28 (vField 1 t4 h28)) fun t57 h29 =>
    k2 (gd t56 false h29 (rdF (fun b => vLoad1 t57 b) 0 h29 [(0, h12)])) fun t58 h30 =>
    k2 (gd t56 false h30 (vField 0 t1 h30)) fun t59 h31 =>
    k2 (gd t56 false h31 (rdF (fun b => vLoad1 t59 b) 0 h31 [(0, h12)])) fun t60 h32 =>
    k2 (gd t56 false h32 (vBin .geq .other t58 t60 h32)) fun t61 h33 =>
    k2 (vPick t56 (.bool true) t61 h33) fun t62 h34 =>
    k2 (some (t62, h34)) fun t63 h35 =>
    k2 (gd t63 false h35 (vField 2 t4 h35)) fun t64 h36 =>
    k2 (gd t63 false h36 (rdF (fun b => vLoad1 t64 b) 0 h36 [(0, h12)])) fun t65 h37 =>
    k2 (gd t63 false h37 (vBin .lss .other t65 (.int .i64 0) h37)) fun t66 h38 =>
    k2 (vPick t63 (.bool true) t66 h38) fun t67 h39 =>
    k2 (some (t67, h39)) fun t68 h40 =>
    k2 (gd t68 false h40 (vField 2 t4 h40)) fun t69 h41 =>
    k2 (gd t68 false h41 (rdF (fun b => vLoad1 t69 b) 0 h41 [(0, h12)])) fun t70 h42 =>
    k2 (gd t68 false h42 (vField 1 t1 h42)) fun t71 h43 =>
    k2 (gd t68 false h43 (rdF (fun b => vLoad1 t71 b) 0 h43 [(0, h12)])) fun t72 h44 =>
    k2 (gd t68 false h44 (vBin .geq .other t70 t72 h44)) fun t73 h45 =>
    k2 (vPick t68 (.bool true) t73 h45) fun t74 h46 =>
    k2 (some (t74, h46)) fun t75 h47 =>
    k2 (gd t75 false h47 (some (t3, h47))) fun t76 h48 =>
    k2 (gd t75 false h48 (vBin .gtr .other t76 (.int .i64 0) h48)) fun t77 h49 =>
    k2 (gd t75 false h49 (some (t77, h49))) fun t78 h50 =>
    k2 (gd t78 true h50 (vField 2 t1 h50)) fun t79 h51 =>
    k2 (gd t78 true h51 (rdF (fun b => vLoad1 t79 b) 0 h51 [(0, h12)])) fun t80 h52 =>
    k2 (gd t78 true h52 (some (t3, h52))) fun t81 h53 =>
    k2 (gd t78 true h53 (vBin .sub .other t81 (.int .i64 1) h53)) fun t82 h54 =>
    k2 (gd t78 true h54 (vIndex 3 t80 t82 h54)) fun t83 h55 =>
    k2 (gd t78 true h55 (rdF (fun b => vLoadN 3 t83 b) 0 h55 [(0, h12)])) fun t84 h56 =>
    k2 (gd t78 true h56 (rdF (fun b => vLoadN 3 t4 b) 0 h56 [(0, h12)])) fun t85 h57 =>
    k2 (gd t78 true h57 (X.call (.func (.func n_cabotageref22_less) #[] #[]) [t84, t85] h57)) fun t86 h58 =>
    k2 (gd t78 true h58 (vUn .not t86 h58)) fun t87 h59 =>
    k2 (gd t75 false h59 (vPick t78 t87 (.bool false) h59)) fun t88 h60 =>
    k2 (vPick t75 (.bool true) t88 h60) fun t89 h61 =>
    br t89
      (k2 (some ((.int .i64 2), h61)) fun t2 h62 =>
    some (.val (tupleOf [t2]) h62))
      (k2 (some (t3, h61)) fun t34 h63 =>
    k2 (vBin .add .other t34 (.int .i64 1) h63) fun t35 h64 =>
    k2 (some (t35, h64)) fun t3_65 h66 =>
    lp X [p1, p3] c_cabotageref22_Check_1 (kBlk 0 (kSeq X c_cabotageref22_Check_0 [] (K_cabotageref22_Check_0 X))) [t1, t3_65] h66))
      (sh X c_cabotageref22_Check_0 (K_cabotageref22_Check_0 X) (setL [] []) h5) := by kernel_rfl
theorem l_cabotageref22_Check_1 (F : FuncId → Option CFunc) (t1 t3 : Value) (h : H) {r : Out} : let X := rI F; sh X c_cabotageref22_Check_1 (K_cabotageref22_Check_1 X) (setL [p1, p3] [t1, t3]) h = some r → lp X [p1, p3] c_cabotageref22_Check_1 (kBlk 0 (kSeq X c_cabotageref22_Check_0 [] (K_cabotageref22_Check_0 X))) [t1, t3] h = some r := fun hv => lp_step (by decide) hv
theorem s_cabotageref22_Check (X : Rn) (t0 : Value) (h : H) : shFunc X 1 f_cabotageref22_Check [t0] h =
    k2 (some (newPtr h (cellsL t0))) fun t1 h1 =>
    k2 (some ((.int .i64 0), h1)) fun t2 h2 =>
    k2 (vField 0 t1 h2) fun t5 h3 =>
    k2 (vLoad1 t5 h3) fun t6 h4 =>
    k2 (vBin .lss .other t6 (.int .i64 1) h4) fun t7 h5 =>
    k2 (some (t7, h5)) fun t8 h6 =>
    k2 (gd t8 false h6 (vField 0 t1 h6)) fun t9 h7 =>
    k2 (gd t8 false h7 (vLoad1 t9 h7)) fun t10 h8 =>
    k2 (gd t8 false h8 (vBin .gtr .other t10 (.int .i64 60) h8)) fun t11 h9 =>
    k2 (vPick t8 (.bool true) t11 h9) fun t12 h10 =>
    k2 (some (t12, h10)) fun t13 h11 =>
    k2 (gd t13 false h11 (vField 1 t1 h11)) fun t14 h12 =>
    k2 (gd t13 false h12 (vLoad1 t14 h12)) fun t15 h13 =>
    k2 (gd t13 false h13 (vBin .lss .other t15 (.int .i64 1) h13)) fun t16 h14 =>
    k2 (vPick t13 (.bool true) t16 h14) fun t17 h15 =>
    k2 (some (t17, h15)) fun t18 h16 =>
    k2 (gd t18 false h16 (vField 1 t1 h16)) fun t19 h17 =>
    k2 (gd t18 false h17 (vLoad1 t19 h17)) fun t20 h18 =>
    k2 (gd t18 false h18 (vBin .gtr .other t20 (.int .i64 41) h18)) fun t21 h19 =>
    k2 (vPick t18 (.bool true) t21 h19) fun t22 h20 =>
    k2 (some (t22, h20)) fun t23 h21 =>
    k2 (gd t23 false h21 (vField 2 t1 h21)) fun t24 h22 =>
    k2 (gd t23 false h22 (vLoad1 t24 h22)) fun t25 h23 =>
    k2 (gd t23 false h23 (bltV h23 .len [t25])) fun t26 h24 =>
    k2 (gd t23 false h24 (vBin .gtr .other t26 (.int .i64 400) h24)) fun t27 h25 =>
    k2 (vPick t23 (.bool true) t27 h25) fun t28 h26 =>
    br t28
      (k2 (some ((.int .i64 2), h26)) fun t2 h27 =>
    some (.val (tupleOf [t2]) h27))
      (k2 (some ((.int .i64 0), h26)) fun t3 h28 =>
    lp X [p1, p3] c_cabotageref22_Check_1 (kBlk 0 (kSeq X c_cabotageref22_Check_0 [] (K_cabotageref22_Check_0 X))) [t1, t3] h28) := by kernel_rfl
theorem s_cabotageref22_SameGraph_0 (X : Rn) (h : H) : sh X c_cabotageref22_SameGraph_0 (K_cabotageref22_SameGraph_0 X) (setL [] []) h =
    k2 (some ((.bool true), h)) fun t4 h1 =>
    some (.val (tupleOf [t4]) h1) := by kernel_rfl
theorem s_cabotageref22_SameGraph_1 (X : Rn) (t2 t3 t5 : Value) (h : H) : sh X c_cabotageref22_SameGraph_1 (K_cabotageref22_SameGraph_1 X) (setL [p2, p3, p5] [t2, t3, t5]) h =
    k2 (some (t5, h)) fun t27 h1 =>
    k2 (vField 2 t2 h1) fun t28 h2 =>
    k2 (vLoad1 t28 h2) fun t29 h3 =>
    k2 (bltV h3 .len [t29]) fun t30 h4 =>
    k2 (vBin .lss .other t27 t30 h4) fun t31 h5 =>
    br t31
      (k2 (vField 2 t2 h5) fun t34 h6 =>
    k2 (rdF (fun b => vLoad1 t34 b) 0 h6 [(0, h5)]) fun t35 h7 =>
    k2 (some (t5, h7)) fun t36 h8 =>
    k2 (vIndex 3 t35 t36 h8) fun t37 h9 =>
    k2 (rdF (fun b => vLoadN 3 t37 b) 0 h9 [(0, h5)]) fun t38 h10 =>
    k2 (vField 2 t3 h10) fun t39 h11 =>
    k2 (rdF (fun b => vLoad1 t39 b) 0 h11 [(0, h5)]) fun t40 h12 =>
    k2 (some (t5, h12)) fun t41 h13 =>
    k2 (vIndex 3 t40 t41 h13) fun t42 h14 =>
    k2 (rdF (fun b => vLoadN 3 t42 b) 0 h14 [(0, h5)]) fun t43 h15 =>
    k2 (vBin .neq (.leaves [0, 1, 2]) t38 t43 h15) fun t44 h16 =>
    br t44
      (k2 (some ((.bool false), h16)) fun t4 h17 =>
    some (.val (tupleOf [t4]) h17))
      (k2 (some (t5, h16)) fun t32 h18 =>
    k2 (vBin .add .other t32 (.int .i64 1) h18) fun t33 h19 =>
    k2 (some (t33, h19)) fun t5_20 h21 =>
    lp X [p2, p3, p5] c_cabotageref22_SameGraph_1 (kBlk 0 (kSeq X c_cabotageref22_SameGraph_0 [] (K_cabotageref22_SameGraph_0 X))) [t2, t3, t5_20] h21))
      (sh X c_cabotageref22_SameGraph_0 (K_cabotageref22_SameGraph_0 X) (setL [] []) h5) := by kernel_rfl
theorem l_cabotageref22_SameGraph_1 (F : FuncId → Option CFunc) (t2 t3 t5 : Value) (h : H) {r : Out} : let X := rI F; sh X c_cabotageref22_SameGraph_1 (K_cabotageref22_SameGraph_1 X) (setL [p2, p3, p5] [t2, t3, t5]) h = some r → lp X [p2, p3, p5] c_cabotageref22_SameGraph_1 (kBlk 0 (kSeq X c_cabotageref22_SameGraph_0 [] (K_cabotageref22_SameGraph_0 X))) [t2, t3, t5] h = some r := fun hv => lp_step (by decide) hv
theorem s_cabotageref22_SameGraph (X : Rn) (t0 t1 : Value) (h : H) : shFunc X 2 f_cabotageref22_SameGraph [t0, t1] h =
    k2 (some (newPtr h (cellsL t0))) fun t2 h1 =>
    k2 (some (newPtr h1 (cellsL t1))) fun t3 h2 =>
    k2 (some ((.bool false), h2)) fun t4 h3 =>
    k2 (vField 0 t2 h3) fun t6 h4 =>
    k2 (vLoad1 t6 h4) fun t7 h5 =>
    k2 (vField 0 t3 h5) fun t8 h6 =>
    k2 (vLoad1 t8 h6) fun t9 h7 =>
    k2 (vBin .neq .other t7 t9 h7) fun t10 h8 =>
    k2 (some (t10, h8)) fun t11 h9 =>
    k2 (gd t11 false h9 (vField 1 t2 h9)) fun t12 h10 =>
    k2 (gd t11 false h10 (vLoad1 t12 h10)) fun t13 h11 =>
    k2 (gd t11 false h11 (vField 1 t3 h11)) fun t14 h12 =>
    k2 (gd t11 false h12 (vLoad1 t14 h12)) fun t15 h13 =>
    k2 (gd t11 false h13 (vBin .neq .other t13 t15 h13)) fun t16 h14 =>
    k2 (vPick t11 (.bool true) t16 h14) fun t17 h15 =>
    k2 (some (t17, h15)) fun t18 h16 =>
    k2 (gd t18 false h16 (vField 2 t2 h16)) fun t19 h17 =>
    k2 (gd t18 false h17 (vLoad1 t19 h17)) fun t20 h18 =>
    k2 (gd t18 false h18 (bltV h18 .len [t20])) fun t21 h19 =>
    k2 (gd t18 false h19 (vField 2 t3 h19)) fun t22 h20 =>
    k2 (gd t18 false h20 (vLoad1 t22 h20)) fun t23 h21 =>
    k2 (gd t18 false h21 (bltV h21 .len [t23])) fun t24 h22 =>
    k2 (gd t18 false h22 (vBin .neq .other t21 t24 h22)) fun t25 h23 =>
    k2 (vPick t18 (.bool true) t25 h23) fun t26 h24 =>
    br t26
      (k2 (some ((.bool false), h24)) fun t4 h25 =>
    some (.val (tupleOf [t4]) h25))
      (k2 (some ((.int .i64 0), h24)) fun t5 h26 =>
    lp X [p2, p3, p5] c_cabotageref22_SameGraph_1 (kBlk 0 (kSeq X c_cabotageref22_SameGraph_0 [] (K_cabotageref22_SameGraph_0 X))) [t2, t3, t5] h26) := by kernel_rfl
theorem s_cabotagelaw22_known (X : Rn) (h : H) : shFunc X 0 f_cabotagelaw22_known [] h =
    k2 (some ((.bool false), h)) fun t0 h1 =>
    k2 ((fillL [(.int .i64 0), (.int .i64 0), (.int .i64 0)] [(0, 1, (.int .i64 0)), (1, 1, (.int .i64 1)), (2, 1, (.int .i64 1))]).map fun c => (Value.agg ⟨c⟩, h1)) fun t17 h2 =>
    k2 ((fillL [(.int .i64 0), (.int .i64 0), (.int .i64 0)] [(0, 1, (.int .i64 1)), (1, 1, (.int .i64 2)), (2, 1, (.int .i64 1))]).map fun c => (Value.agg ⟨c⟩, h2)) fun t18 h3 =>
    k2 ((fillL [(.int .i64 0), (.int .i64 0), (.int .i64 0)] [(0, 1, (.int .i64 1)), (1, 1, (.int .i64 3)), (2, 1, (.int .i64 2))]).map fun c => (Value.agg ⟨c⟩, h3)) fun t19 h4 =>
    k2 (vSlice 3 (fillL (repeatL [(.int .i64 0), (.int .i64 0), (.int .i64 0)] 3) [(0 * 3, 3, t17), (1 * 3, 3, t18), (2 * 3, 3, t19)]) h4) fun t20 h5 =>
    k2 (X.call (.func (.func n_cabotagelaw22_edges) #[] #[]) [t20] h5) fun t21 h6 =>
    k2 ((fillL [(.int .i64 0), (.int .i64 0), (.slice none 0 0)] [(0, 1, (.int .i64 4)), (1, 1, (.int .i64 3)), (2, 1, t21)]).map fun c => (Value.agg ⟨c⟩, h6)) fun t22 h7 =>
    k2 (some (newPtr h7 [(.int .i64 0), (.int .i64 0), (.slice none 0 0)])) fun t1 h8 =>
    k2 (vStore 3 t1 t22 h8) fun _ h9 =>
    k2 ((fillL [(.int .i64 0), (.int .i64 0), (.int .i64 0)] [(0, 1, (.int .i64 0)), (1, 1, (.int .i64 1)), (2, 1, (.int .i64 1))]).map fun c => (Value.agg ⟨c⟩, h9)) fun t23 h10 =>
    k2 ((fillL [(.int .i64 0), (.int .i64 0), (.int .i64 0)] [(0, 1, (.int .i64 0)), (1, 1, (.int .i64 2)), (2, 1, (.int .i64 1))]).map fun c => (Value.agg ⟨c⟩, h10)) fun t24 h11 =>
    k2 ((fillL [(.int .i64 0), (.int .i64 0), (.int .i64 0)] [(0, 1, (.int .i64 1)), (1, 1, (.int .i64 3)), (2, 1, (.int .i64 1))]).map fun c => (Value.agg ⟨c⟩, h11)) fun t25 h12 =>
    k2 ((fillL [(.int .i64 0), (.int .i64 0), (.int .i64 0)] [(0, 1, (.int .i64 2)), (1, 1, (.int .i64 4)), (2, 1, (.int .i64 2))]).map fun c => (Value.agg ⟨c⟩, h12)) fun t26 h13 =>
    k2 (vSlice 4 (fillL (repeatL [(.int .i64 0), (.int .i64 0), (.int .i64 0)] 4) [(0 * 3, 3, t23), (1 * 3, 3, t24), (2 * 3, 3, t25), (3 * 3, 3, t26)]) h13) fun t27 h14 =>
    k2 (X.call (.func (.func n_cabotagelaw22_edges) #[] #[]) [t27] h14) fun t28 h15 =>
    k2 ((fillL [(.int .i64 0), (.int .i64 0), (.slice none 0 0)] [(0, 1, (.int .i64 5)), (1, 1, (.int .i64 3)), (2, 1, t28)]).map fun c => (Value.agg ⟨c⟩, h15)) fun t29 h16 =>
    k2 (some (newPtr h16 [(.int .i64 0), (.int .i64 0), (.slice none 0 0)])) fun t2 h17 =>
    k2 (vStore 3 t2 t29 h17) fun _ h18 =>
    k2 (vLoadN 3 t1 h18) fun t31 h19 =>
    k2 (X.call (.func (.func n_judge_Classes) #[] #[]) [t31] h19) fun t32 h20 =>
    k2 (some (t32, h20)) fun t30 h21 =>
    k2 (vExtract 0 t30 h21) fun t33 h22 =>
    k2 (vExtract 1 t30 h22) fun t34 h23 =>
    k2 (some (t33, h23)) fun t3 h24 =>
    k2 (some (t34, h24)) fun t4 h25 =>
    k2 (vLoadN 3 t2 h25) fun t36 h26 =>
    k2 (X.call (.func (.func n_judge_Classes) #[] #[]) [t36] h26) fun t37 h27 =>
    k2 (some (t37, h27)) fun t35 h28 =>
    k2 (vExtract 0 t35 h28) fun t38 h29 =>
    k2 (vExtract 1 t35 h29) fun t39 h30 =>
    k2 (some (t38, h30)) fun t5 h31 =>
    k2 (some (t39, h31)) fun t6 h32 =>
    k2 (vLoadN 3 t1 h32) fun t41 h33 =>
    k2 (vLoadN 3 t2 h33) fun t42 h34 =>
    k2 (X.call (.func (.func n_judge_Alike) #[] #[]) [t41, t42] h34) fun t43 h35 =>
    k2 (some (t43, h35)) fun t40 h36 =>
    k2 (vExtract 0 t40 h36) fun t44 h37 =>
    k2 (vExtract 1 t40 h37) fun t45 h38 =>
    k2 (some (t44, h38)) fun t7 h39 =>
    k2 (some (t45, h39)) fun t8 h40 =>
    k2 (vLoadN 3 t1 h40) fun t47 h41 =>
    k2 (vLoadN 3 t2 h41) fun t48 h42 =>
    k2 (X.call (.func (.func n_cabotageref22_Both) #[] #[]) [t47, t48] h42) fun t49 h43 =>
    k2 (X.call (.func (.func n_judge_Tells) #[] #[]) [t49, (.int .i64 0), (.int .i64 4)] h43) fun t50 h44 =>
    k2 (some (t50, h44)) fun t46 h45 =>
    k2 (vExtract 0 t46 h45) fun t51 h46 =>
    k2 (vExtract 1 t46 h46) fun t52 h47 =>
    k2 (some (newPtr h47 [(.int .i64 0), (.int .i64 0), (.slice none 0 0)])) fun t9 h48 =>
    k2 (vStore 3 t9 t51 h48) fun _ h49 =>
    k2 (some (t52, h49)) fun t10 h50 =>
    k2 ((fillL [(.int .i64 0), (.int .i64 0), (.int .i64 0)] [(0, 1, (.int .i64 0)), (1, 1, (.int .i64 1)), (2, 1, (.int .i64 0))]).map fun c => (Value.agg ⟨c⟩, h50)) fun t54 h51 =>
    k2 ((fillL [(.int .i64 0), (.int .i64 0), (.int .i64 0)] [(0, 1, (.int .i64 1)), (1, 1, (.int .i64 0)), (2, 1, (.int .i64 1))]).map fun c => (Value.agg ⟨c⟩, h51)) fun t55 h52 =>
    k2 (vSlice 2 (fillL (repeatL [(.int .i64 0), (.int .i64 0), (.int .i64 0)] 2) [(0 * 3, 3, t54), (1 * 3, 3, t55)]) h52) fun t56 h53 =>
    k2 (X.call (.func (.func n_cabotagelaw22_edges) #[] #[]) [t56] h53) fun t57 h54 =>
    k2 ((fillL [(.int .i64 0), (.int .i64 0), (.slice none 0 0)] [(0, 1, (.int .i64 2)), (1, 1, (.int .i64 2)), (2, 1, t57)]).map fun c => (Value.agg ⟨c⟩, h54)) fun t58 h55 =>
    k2 (X.call (.func (.func n_judge_Weak) #[] #[]) [t58] h55) fun t59 h56 =>
    k2 (some (t59, h56)) fun t53 h57 =>
    k2 (vExtract 0 t53 h57) fun t60 h58 =>
    k2 (vExtract 1 t53 h58) fun t61 h59 =>
    k2 (some (newPtr h59 [(.int .i64 0), (.int .i64 0), (.slice none 0 0)])) fun t11 h60 =>
    k2 (vStore 3 t11 t60 h60) fun _ h61 =>
    k2 (some (t61, h61)) fun t12 h62 =>
    k2 (some (t4, h62)) fun t62 h63 =>
    k2 (vBin .neq .other t62 (.int .i64 0) h63) fun t63 h64 =>
    k2 (some (t63, h64)) fun t64 h65 =>
    k2 (gd t64 false h65 (some (t6, h65))) fun t65 h66 =>
    k2 (gd t64 false h66 (vBin .neq .other t65 (.int .i64 0) h66)) fun t66 h67 =>
    k2 (vPick t64 (.bool true) t66 h67) fun t67 h68 =>
    k2 (some (t67, h68)) fun t68 h69 =>
    k2 (gd t68 false h69 (some (t8, h69))) fun t69 h70 =>
    k2 (gd t68 false h70 (vBin .neq .other t69 (.int .i64 0) h70)) fun t70 h71 =>
    k2 (vPick t68 (.bool true) t70 h71) fun t71 h72 =>
    k2 (some (t71, h72)) fun t72 h73 =>
    k2 (gd t72 false h73 (some (t10, h73))) fun t73 h74 =>
    k2 (gd t72 false h74 (vBin .neq .other t73 (.int .i64 0) h74)) fun t74 h75 =>
    k2 (vPick t72 (.bool true) t74 h75) fun t75 h76 =>
    k2 (some (t75, h76)) fun t76 h77 =>
    k2 (gd t76 false h77 (some (t12, h77))) fun t77 h78 =>
    k2 (gd t76 false h78 (vBin .neq .other t77 (.int .i64 0) h78)) fun t78 h79 =>
    k2 (vPick t76 (.bool true) t78 h79) fun t79 h80 =>
    br t79
      (k2 (some ((.bool false), h80)) fun t0 h81 =>
    some (.val (tupleOf [t0]) h81))
      (k2 ((fillL [(.int .i64 0), (.int .i64 0), (.slice none 0 0)] [(0, 1, (.int .i64 3))]).map fun c => (Value.agg ⟨c⟩, h80)) fun t80 h82 =>
    k2 (some (newPtr h82 [(.int .i64 0), (.int .i64 0), (.slice none 0 0)])) fun t13 h83 =>
    k2 (vStore 3 t13 t80 h83) fun _ h84 =>
    k2 (vLoadN 3 t13 h84) fun t81 h85 =>
    k2 (vSlice 1 (fillL (repeatL [(.int .i64 0), (.int .i64 0), (.slice none 0 0)] 1) [(0 * 3, 3, t81)]) h85) fun t82 h86 =>
    k2 ((fillL [(.int .i64 0), (.int .i64 0), (.slice none 0 0)] [(0, 1, (.int .i64 4)), (1, 1, (.int .i64 2)), (2, 1, t82)]).map fun c => (Value.agg ⟨c⟩, h86)) fun t83 h87 =>
    k2 (vLoadN 3 t13 h87) fun t84 h88 =>
    k2 (vSlice 1 (fillL (repeatL [(.int .i64 0), (.int .i64 0), (.slice none 0 0)] 1) [(0 * 3, 3, t84)]) h88) fun t85 h89 =>
    k2 ((fillL [(.int .i64 0), (.int .i64 0), (.slice none 0 0)] [(0, 1, (.int .i64 4)), (1, 1, (.int .i64 1)), (2, 1, t85)]).map fun c => (Value.agg ⟨c⟩, h89)) fun t86 h90 =>
    k2 (vSlice 2 (fillL (repeatL [(.int .i64 0), (.int .i64 0), (.slice none 0 0)] 2) [(0 * 3, 3, t83), (1 * 3, 3, t86)]) h90) fun t87 h91 =>
    k2 (some (t87, h91)) fun t14 h92 =>
    k2 (some (t14, h92)) fun t88 h93 =>
    k2 ((fillL [(.int .i64 0), (.int .i64 0), (.slice none 0 0)] [(0, 1, (.int .i64 3)), (2, 1, t88)]).map fun c => (Value.agg ⟨c⟩, h93)) fun t89 h94 =>
    k2 (vSlice 1 (fillL (repeatL [(.int .i64 0), (.int .i64 0), (.slice none 0 0)] 1) [(0 * 3, 3, t89)]) h94) fun t90 h95 =>
    k2 ((fillL [(.int .i64 0), (.int .i64 0), (.slice none 0 0)] [(0, 1, (.int .i64 4)), (1, 1, (.int .i64 1)), (2, 1, t90)]).map fun c => (Value.agg ⟨c⟩, h95)) fun t91 h96 =>
    k2 (some (newPtr h96 [(.int .i64 0), (.int .i64 0), (.slice none 0 0)])) fun t15 h97 =>
    k2 (vStore 3 t15 t91 h97) fun _ h98 =>
    k2 ((fillL [(.int .i64 0), (.int .i64 0), (.int .i64 0)] [(0, 1, (.int .i64 0)), (1, 1, (.int .i64 0)), (2, 1, (.int .i64 0))]).map fun c => (Value.agg ⟨c⟩, h98)) fun t92 h99 =>
    k2 ((fillL [(.int .i64 0), (.int .i64 0), (.int .i64 0)] [(0, 1, (.int .i64 0)), (1, 1, (.int .i64 1)), (2, 1, (.int .i64 0))]).map fun c => (Value.agg ⟨c⟩, h99)) fun t93 h100 =>
    k2 ((fillL [(.int .i64 0), (.int .i64 0), (.int .i64 0)] [(0, 1, (.int .i64 0)), (1, 1, (.int .i64 0)), (2, 1, (.int .i64 1))]).map fun c => (Value.agg ⟨c⟩, h100)) fun t94 h101 =>
    k2 ((fillL [(.int .i64 0), (.int .i64 0), (.int .i64 0)] [(0, 1, (.int .i64 0)), (1, 1, (.int .i64 1)), (2, 1, (.int .i64 1))]).map fun c => (Value.agg ⟨c⟩, h101)) fun t95 h102 =>
    k2 ((fillL [(.int .i64 0), (.int .i64 0), (.int .i64 0)] [(0, 1, (.int .i64 1)), (1, 1, (.int .i64 1)), (2, 1, (.int .i64 0))]).map fun c => (Value.agg ⟨c⟩, h102)) fun t96 h103 =>
    k2 ((fillL [(.int .i64 0), (.int .i64 0), (.int .i64 0)] [(0, 1, (.int .i64 1)), (1, 1, (.int .i64 0)), (2, 1, (.int .i64 1))]).map fun c => (Value.agg ⟨c⟩, h103)) fun t97 h104 =>
    k2 ((fillL [(.int .i64 0), (.int .i64 0), (.int .i64 0)] [(0, 1, (.int .i64 1)), (1, 1, (.int .i64 1)), (2, 1, (.int .i64 1))]).map fun c => (Value.agg ⟨c⟩, h104)) fun t98 h105 =>
    k2 (vSlice 7 (fillL (repeatL [(.int .i64 0), (.int .i64 0), (.int .i64 0)] 7) [(0 * 3, 3, t92), (1 * 3, 3, t93), (2 * 3, 3, t94), (3 * 3, 3, t95), (4 * 3, 3, t96), (5 * 3, 3, t97), (6 * 3, 3, t98)]) h105) fun t99 h106 =>
    k2 (X.call (.func (.func n_cabotagelaw22_edges) #[] #[]) [t99] h106) fun t100 h107 =>
    k2 (some (t100, h107)) fun t16 h108 =>
    k2 (some (t3, h108)) fun t101 h109 =>
    k2 (vSlice 4 (fillL (repeatL [(.int .i64 0)] 4) [(0 * 1, 1, (.int .i64 0)), (1 * 1, 1, (.int .i64 1)), (2 * 1, 1, (.int .i64 2)), (3 * 1, 1, (.int .i64 2))]) h109) fun t102 h110 =>
    k2 (X.call (.func (.func n_cabotageref03_SameInts) #[] #[]) [t101, t102] h110) fun t103 h111 =>
    k2 (some (t103, h111)) fun t104 h112 =>
    k2 (gd t104 true h112 (some (t5, h112))) fun t105 h113 =>
    k2 (gd t104 true h113 (vSlice 5 (fillL (repeatL [(.int .i64 0)] 5) [(0 * 1, 1, (.int .i64 0)), (1 * 1, 1, (.int .i64 1)), (2 * 1, 1, (.int .i64 2)), (3 * 1, 1, (.int .i64 3)), (4 * 1, 1, (.int .i64 3))]) h113)) fun t106 h114 =>
    k2 (gd t104 true h114 (X.call (.func (.func n_cabotageref03_SameInts) #[] #[]) [t105, t106] h114)) fun t107 h115 =>
    k2 (vPick t104 t107 (.bool false) h115) fun t108 h116 =>
    k2 (some (t108, h116)) fun t109 h117 =>
    k2 (gd t109 true h117 (some (t7, h117))) fun t110 h118 =>
    k2 (gd t109 true h118 (vUn .not t110 h118)) fun t111 h119 =>
    k2 (vPick t109 t111 (.bool false) h119) fun t112 h120 =>
    k2 (some (t112, h120)) fun t113 h121 =>
    k2 (gd t113 true h121 (vLoadN 3 t9 h121)) fun t114 h122 =>
    k2 (gd t113 true h122 (vLoadN 3 t15 h122)) fun t115 h123 =>
    k2 (gd t113 true h123 (X.call (.func (.func n_cabotageref22_SameFormula) #[] #[]) [t114, t115] h123)) fun t116 h124 =>
    k2 (vPick t113 t116 (.bool false) h124) fun t117 h125 =>
    k2 (some (t117, h125)) fun t118 h126 =>
    k2 (gd t118 true h126 (vLoadN 3 t11 h126)) fun t119 h127 =>
    k2 (gd t118 true h127 (some (t16, h127))) fun t120 h128 =>
    k2 (gd t118 true h128 ((fillL [(.int .i64 0), (.int .i64 0), (.slice none 0 0)] [(0, 1, (.int .i64 2)), (1, 1, (.int .i64 2)), (2, 1, t120)]).map fun c => (Value.agg ⟨c⟩, h128))) fun t121 h129 =>
    k2 (gd t118 true h129 (X.call (.func (.func n_cabotageref22_SameGraph) #[] #[]) [t119, t121] h129)) fun t122 h130 =>
    k2 (vPick t118 t122 (.bool false) h130) fun t123 h131 =>
    k2 (some (t123, h131)) fun t0 h132 =>
    some (.val (tupleOf [t0]) h132)) := by kernel_rfl
theorem s_judge_Tells (X : Rn) (t0 t1 t2 : Value) (h : H) : shFunc X 3 f_judge_Tells [t0, t1, t2] h =
    k2 (some (newPtr h (cellsL t0))) fun t3 h1 =>
    k2 (some (newPtr h1 [(.int .i64 0), (.int .i64 0), (.slice none 0 0)])) fun t6 h2 =>
    k2 (some ((.int .i64 0), h2)) fun t7 h3 =>
    k2 (vLoadN 3 t3 h3) fun t11 h4 =>
    k2 (some (t1, h4)) fun t12 h5 =>
    k2 (X.call (.func (.func n_judge_isState) #[] #[]) [t11, t12] h5) fun t13 h6 =>
    k2 (vUn .not t13 h6) fun t14 h7 =>
    k2 (some (t14, h7)) fun t15 h8 =>
    k2 (gd t15 false h8 (vLoadN 3 t3 h8)) fun t16 h9 =>
    k2 (gd t15 false h9 (some (t2, h9))) fun t17 h10 =>
    k2 (gd t15 false h10 (X.call (.func (.func n_judge_isState) #[] #[]) [t16, t17] h10)) fun t18 h11 =>
    k2 (gd t15 false h11 (vUn .not t18 h11)) fun t19 h12 =>
    k2 (vPick t15 (.bool true) t19 h12) fun t20 h13 =>
    br t20
      (k2 ((fillL [(.int .i64 0), (.int .i64 0), (.slice none 0 0)] []).map fun c => (Value.agg ⟨c⟩, h13)) fun t21 h14 =>
    k2 (vStore 3 t6 t21 h14) fun _ h15 =>
    k2 (some ((.int .i64 2), h15)) fun t7 h16 =>
    (vRes (some 3) t6 h16).bind fun r0 => some (.val (tupleOf [r0, t7]) h16))
      (k2 (rdF (fun b => vLoadN 3 t3 b) 0 h13 [(0, h13)]) fun t22 h17 =>
    k2 (X.call (.func (.func n_judge_apart) #[] #[]) [t22] h17) fun t23 h18 =>
    k2 (rdF (fun b => vLoadN 3 t3 b) 0 h18 [(1, h18), (0, h13)]) fun t24 h19 =>
    k2 (some (.map (some h19.next), h19.new (.map [] 0))) fun t25 h20 =>
    k2 ((fillL [(.map none), (.int .i64 0), (.int .i64 0), (.slice none 0 0), (.map none)] [(0, 1, t23), (1, 3, t24), (4, 1, t25)]).map fun c => (Value.agg ⟨c⟩, h20)) fun t26 h21 =>
    k2 (some (newPtr h21 [(.map none), (.int .i64 0), (.int .i64 0), (.slice none 0 0), (.map none)])) fun t8 h22 =>
    k2 (vStore 5 t8 t26 h22) fun _ h23 =>
    k2 (vField 0 t8 h23) fun t28 h24 =>
    k2 (vLoad1 t28 h24) fun t29 h25 =>
    k2 (some (t1, h25)) fun t30 h26 =>
    k2 (some (t2, h26)) fun t31 h27 =>
    k2 ((fillL [(.int .i64 0), (.int .i64 0)] [(0, 1, t30), (1, 1, t31)]).map fun c => (Value.agg ⟨c⟩, h27)) fun t32 h28 =>
    k2 (vLookup (.leaves [0, 1]) (.int .i64 0) true t29 t32 h28) fun t33 h29 =>
    k2 (some (t33, h29)) fun t27 h30 =>
    k2 (vExtract 0 t27 h30) fun t34 h31 =>
    k2 (vExtract 1 t27 h31) fun t35 h32 =>
    k2 (some (t34, h32)) fun t9 h33 =>
    k2 (some (t35, h33)) fun t10 h34 =>
    k2 (some (t10, h34)) fun t36 h35 =>
    k2 (vUn .not t36 h35) fun t37 h36 =>
    br t37
      (k2 ((fillL [(.int .i64 0), (.int .i64 0), (.slice none 0 0)] []).map fun c => (Value.agg ⟨c⟩, h36)) fun t38 h37 =>
    k2 (vStore 3 t6 t38 h37) fun _ h38 =>
    k2 (some ((.int .i64 5), h38)) fun t7 h39 =>
    (vRes (some 3) t6 h39).bind fun r0 => some (.val (tupleOf [r0, t7]) h39))
      (k2 (vLoadN 5 t8 h36) fun t39 h40 =>
    k2 (some (t1, h40)) fun t40 h41 =>
    k2 (some (t2, h41)) fun t41 h42 =>
    k2 (X.call (.func (.func n_judge_teller_size) #[] #[]) [t39, t40, t41] h42) fun t42 h43 =>
    k2 (vBin .gtr .other t42 (.int .i64 3000) h43) fun t43 h44 =>
    br t43
      (k2 ((fillL [(.int .i64 0), (.int .i64 0), (.slice none 0 0)] []).map fun c => (Value.agg ⟨c⟩, h44)) fun t44 h45 =>
    k2 (vStore 3 t6 t44 h45) fun _ h46 =>
    k2 (some ((.int .i64 3), h46)) fun t7 h47 =>
    (vRes (some 3) t6 h47).bind fun r0 => some (.val (tupleOf [r0, t7]) h47))
      (k2 (vLoadN 5 t8 h44) fun t45 h48 =>
    k2 (some (t1, h48)) fun t46 h49 =>
    k2 (some (t2, h49)) fun t47 h50 =>
    k2 (X.call (.func (.func n_judge_teller_formula) #[] #[]) [t45, t46, t47] h50) fun t48 h51 =>
    k2 (vStore 3 t6 t48 h51) fun _ h52 =>
    k2 (some ((.int .i64 0), h52)) fun t7 h53 =>
    (vRes (some 3) t6 h53).bind fun r0 => some (.val (tupleOf [r0, t7]) h53)))) := by kernel_rfl
theorem s_cabotageref22_Tells_0 (X : Rn) (t1 t2 t6 t8 : Value) (h : H) : sh X c_cabotageref22_Tells_0 (K_cabotageref22_Tells_0 X) (setL [p1, p2, p6, p8] [t1, t2, t6, t8]) h =
    k2 (some (t8, h)) fun t69 h1 =>
    k2 (some (t1, h1)) fun t70 h2 =>
    k2 (some (t2, h2)) fun t71 h3 =>
    k2 (X.call (.func (.func n_Pcabotageref22_teller_tells) #[] #[]) [t69, t70, t71] h3) fun t72 h4 =>
    k2 (some (newPtr h4 [(.int .i64 0), (.int .i64 0), (.slice none 0 0)])) fun t10 h5 =>
    k2 (vStore 3 t10 t72 h5) fun _ h6 =>
    k2 (some (t8, h6)) fun t73 h7 =>
    k2 (vNil t73 h7) fun t74 h8 =>
    k2 (vField 2 t74 h8) fun t75 h9 =>
    k2 (vLoad1 t75 h9) fun t76 h10 =>
    k2 (vBin .lss .other t76 (.int .i64 0) h10) fun t77 h11 =>
    br t77
      (k2 ((fillL [(.int .i64 0), (.int .i64 0), (.slice none 0 0)] []).map fun c => (Value.agg ⟨c⟩, h11)) fun t78 h12 =>
    k2 (vStore 3 t6 t78 h12) fun _ h13 =>
    k2 (some ((.int .i64 3), h13)) fun t7 h14 =>
    (vRes (some 3) t6 h14).bind fun r0 => some (.val (tupleOf [r0, t7]) h14))
      (k2 (vLoadN 3 t10 h11) fun t79 h15 =>
    k2 (vStore 3 t6 t79 h15) fun _ h16 =>
    k2 (some ((.int .i64 0), h16)) fun t7 h17 =>
    (vRes (some 3) t6 h17).bind fun r0 => some (.val (tupleOf [r0, t7]) h17)) := by kernel_rfl
theorem s_cabotageref22_Tells_1 (X : Rn) (t1 t2 t3 t6 t8 t9 : Value) (h : H) : sh X c_cabotageref22_Tells_1 (K_cabotageref22_Tells_1 X) (setL [p1, p2, p3, p6, p8, p9] [t1, t2, t3, t6, t8, t9]) h =
    k2 (some (t9, h)) fun t51 h1 =>
    k2 (vField 0 t3 h1) fun t52 h2 =>
    k2 (vLoad1 t52 h2) fun t53 h3 =>
    k2 (vBin .lss .other t51 t53 h3) fun t54 h4 =>
    br t54
      (k2 (rdF (fun b => vLoadN 3 t3 b) 0 h4 [(0, h4)]) fun t62 h5 =>
    k2 (some (t9, h5)) fun t63 h6 =>
    k2 (X.call (.func (.func n_cabotageref22_steps) #[] #[]) [t62, t63] h6) fun t64 h7 =>
    k2 (some (t8, h7)) fun t58 h8 =>
    k2 (vNil t58 h8) fun t59 h9 =>
    k2 (vField 0 t59 h9) fun t60 h10 =>
    k2 (rdF (fun b => vLoad1 t60 b) 0 h10 [(1, h7), (0, h4)]) fun t61 h11 =>
    k2 (vSlice 1 (fillL (repeatL [(.slice none 0 0)] 1) [(0 * 1, 1, t64)]) h11) fun t65 h12 =>
    k2 (bltV h12 (.append 1 24) [t61, t65]) fun t66 h13 =>
    k2 (some (t8, h13)) fun t57 h14 =>
    k2 (vNil t57 h14) fun t67 h15 =>
    k2 (vField 0 t67 h15) fun t68 h16 =>
    k2 (vStore 1 t68 t66 h16) fun _ h17 =>
    k2 (some (t9, h17)) fun t55 h18 =>
    k2 (vBin .add .other t55 (.int .i64 1) h18) fun t56 h19 =>
    k2 (some (t56, h19)) fun t9_20 h21 =>
    lp X [p1, p2, p3, p6, p8, p9] c_cabotageref22_Tells_1 (kBlk 0 (kSeq X c_cabotageref22_Tells_0 [p1, p2, p6, p8] (K_cabotageref22_Tells_0 X))) [t1, t2, t3, t6, t8, t9_20] h21)
      (sh X c_cabotageref22_Tells_0 (K_cabotageref22_Tells_0 X) (setL [p1, p2, p6, p8] [t1, t2, t6, t8]) h4) := by kernel_rfl
theorem l_cabotageref22_Tells_1 (F : FuncId → Option CFunc) (t1 t2 t3 t6 t8 t9 : Value) (h : H) {r : Out} : let X := rI F; sh X c_cabotageref22_Tells_1 (K_cabotageref22_Tells_1 X) (setL [p1, p2, p3, p6, p8, p9] [t1, t2, t3, t6, t8, t9]) h = some r → lp X [p1, p2, p3, p6, p8, p9] c_cabotageref22_Tells_1 (kBlk 0 (kSeq X c_cabotageref22_Tells_0 [p1, p2, p6, p8] (K_cabotageref22_Tells_0 X))) [t1, t2, t3, t6, t8, t9] h = some r := fun hv => lp_step (by decide) hv
theorem s_cabotageref22_Tells (X : Rn) (t0 t1 t2 : Value) (h : H) : shFunc X 3 f_cabotageref22_Tells [t0, t1, t2] h =
    k2 (some (newPtr h (cellsL t0))) fun t3 h1 =>
    k2 (some (newPtr h1 [(.int .i64 0), (.int .i64 0), (.slice none 0 0)])) fun t6 h2 =>
    k2 (some ((.int .i64 0), h2)) fun t7 h3 =>
    k2 (vLoadN 3 t3 h3) fun t11 h4 =>
    k2 (X.call (.func (.func n_cabotageref22_Check) #[] #[]) [t11] h4) fun t12 h5 =>
    k2 (vBin .neq .other t12 (.int .i64 0) h5) fun t13 h6 =>
    k2 (some (t13, h6)) fun t14 h7 =>
    k2 (gd t14 false h7 (some (t1, h7))) fun t15 h8 =>
    k2 (gd t14 false h8 (vBin .lss .other t15 (.int .i64 0) h8)) fun t16 h9 =>
    k2 (vPick t14 (.bool true) t16 h9) fun t17 h10 =>
    k2 (some (t17, h10)) fun t18 h11 =>
    k2 (gd t18 false h11 (some (t1, h11))) fun t19 h12 =>
    k2 (gd t18 false h12 (vField 0 t3 h12)) fun t20 h13 =>
    k2 (gd t18 false h13 (vLoad1 t20 h13)) fun t21 h14 =>
    k2 (gd t18 false h14 (vBin .geq .other t19 t21 h14)) fun t22 h15 =>
    k2 (vPick t18 (.bool true) t22 h15) fun t23 h16 =>
    k2 (some (t23, h16)) fun t24 h17 =>
    k2 (gd t24 false h17 (some (t2, h17))) fun t25 h18 =>
    k2 (gd t24 false h18 (vBin .lss .other t25 (.int .i64 0) h18)) fun t26 h19 =>
    k2 (vPick t24 (.bool true) t26 h19) fun t27 h20 =>
    k2 (some (t27, h20)) fun t28 h21 =>
    k2 (gd t28 false h21 (some (t2, h21))) fun t29 h22 =>
    k2 (gd t28 false h22 (vField 0 t3 h22)) fun t30 h23 =>
    k2 (gd t28 false h23 (vLoad1 t30 h23)) fun t31 h24 =>
    k2 (gd t28 false h24 (vBin .geq .other t29 t31 h24)) fun t32 h25 =>
    k2 (vPick t28 (.bool true) t32 h25) fun t33 h26 =>
    br t33
      (k2 ((fillL [(.int .i64 0), (.int .i64 0), (.slice none 0 0)] []).map fun c => (Value.agg ⟨c⟩, h26)) fun t34 h27 =>
    k2 (vStore 3 t6 t34 h27) fun _ h28 =>
    k2 (some ((.int .i64 2), h28)) fun t7 h29 =>
    (vRes (some 3) t6 h29).bind fun r0 => some (.val (tupleOf [r0, t7]) h29))
      (k2 (vLoadN 3 t3 h26) fun t35 h30 =>
    k2 (X.call (.func (.func n_cabotageref22_Rounds) #[] #[]) [t35] h30) fun t36 h31 =>
    k2 ((fillL [(.slice none 0 0), (.slice none 0 0), (.int .i64 0)] [(1, 1, t36), (2, 1, (.int .i64 3000))]).map fun c => (Value.agg ⟨c⟩, h31)) fun t37 h32 =>
    k2 (some (newPtr h32 (cellsL t37))) fun t38 h33 =>
    k2 (some (t38, h33)) fun t8 h34 =>
    k2 (some (t8, h34)) fun t39 h35 =>
    k2 (vNil t39 h35) fun t40 h36 =>
    k2 (vField 1 t40 h36) fun t41 h37 =>
    k2 (vLoad1 t41 h37) fun t42 h38 =>
    k2 (some (t1, h38)) fun t43 h39 =>
    k2 (vIndex 1 t42 t43 h39) fun t44 h40 =>
    k2 (vLoad1 t44 h40) fun t45 h41 =>
    k2 (some (t2, h41)) fun t46 h42 =>
    k2 (vIndex 1 t45 t46 h42) fun t47 h43 =>
    k2 (vLoad1 t47 h43) fun t48 h44 =>
    k2 (vBin .eql .other t48 (.int .i64 0) h44) fun t49 h45 =>
    br t49
      (k2 ((fillL [(.int .i64 0), (.int .i64 0), (.slice none 0 0)] []).map fun c => (Value.agg ⟨c⟩, h45)) fun t50 h46 =>
    k2 (vStore 3 t6 t50 h46) fun _ h47 =>
    k2 (some ((.int .i64 5), h47)) fun t7 h48 =>
    (vRes (some 3) t6 h48).bind fun r0 => some (.val (tupleOf [r0, t7]) h48))
      (k2 (some ((.int .i64 0), h45)) fun t9 h49 =>
    lp X [p1, p2, p3, p6, p8, p9] c_cabotageref22_Tells_1 (kBlk 0 (kSeq X c_cabotageref22_Tells_0 [p1, p2, p6, p8] (K_cabotageref22_Tells_0 X))) [t1, t2, t3, t6, t8, t9] h49)) := by kernel_rfl
theorem s_cabotageref22_SameFormula_0 (X : Rn) (h : H) : sh X c_cabotageref22_SameFormula_0 (K_cabotageref22_SameFormula_0 X) (setL [] []) h =
    k2 (some ((.bool true), h)) fun t4 h1 =>
    some (.val (tupleOf [t4]) h1) := by kernel_rfl
theorem s_cabotageref22_SameFormula_1 (X : Rn) (t2 t3 t5 : Value) (h : H) : sh X c_cabotageref22_SameFormula_1 (K_cabotageref22_SameFormula_1 X) (setL [p2, p3, p5] [t2, t3, t5]) h =
    k2 (some (t5, h)) fun t27 h1 =>
    k2 (vField 2 t2 h1) fun t28 h2 =>
    k2 (vLoad1 t28 h2) fun t29 h3 =>
    k2 (bltV h3 .len [t29]) fun t30 h4 =>
    k2 (vBin .lss .other t27 t30 h4) fun t31 h5 =>
    br t31
      (k2 (vField 2 t2 h5) fun t34 h6 =>
    k2 (rdF (fun b => vLoad1 t34 b) 0 h6 [(0, h5)]) fun t35 h7 =>
    k2 (some (t5, h7)) fun t36 h8 =>
    k2 (vIndex 3 t35 t36 h8) fun t37 h9 =>
    k2 (rdF (fun b => vLoadN 3 t37 b) 0 h9 [(0, h5)]) fun t38 h10 =>
    k2 (vField 2 t3 h10) fun t39 h11 =>
    k2 (rdF (fun b => vLoad1 t39 b) 0 h11 [(0, h5)]) fun t40 h12 =>
    k2 (some (t5, h12)) fun t41 h13 =>
    k2 (vIndex 3 t40 t41 h13) fun t42 h14 =>
    k2 (rdF (fun b => vLoadN 3 t42 b) 0 h14 [(0, h5)]) fun t43 h15 =>
    k2 (X.call (.func (.func n_cabotageref22_SameFormula) #[] #[]) [t38, t43] h15) fun t44 h16 =>
    k2 (vUn .not t44 h16) fun t45 h17 =>
    br t45
      (k2 (some ((.bool false), h17)) fun t4 h18 =>
    some (.val (tupleOf [t4]) h18))
      (k2 (some (t5, h17)) fun t32 h19 =>
    k2 (vBin .add .other t32 (.int .i64 1) h19) fun t33 h20 =>
    k2 (some (t33, h20)) fun t5_21 h22 =>
    lp X [p2, p3, p5] c_cabotageref22_SameFormula_1 (kBlk 0 (kSeq X c_cabotageref22_SameFormula_0 [] (K_cabotageref22_SameFormula_0 X))) [t2, t3, t5_21] h22))
      (sh X c_cabotageref22_SameFormula_0 (K_cabotageref22_SameFormula_0 X) (setL [] []) h5) := by kernel_rfl
theorem l_cabotageref22_SameFormula_1 (F : FuncId → Option CFunc) (t2 t3 t5 : Value) (h : H) {r : Out} : let X := rI F; sh X c_cabotageref22_SameFormula_1 (K_cabotageref22_SameFormula_1 X) (setL [p2, p3, p5] [t2, t3, t5]) h = some r → lp X [p2, p3, p5] c_cabotageref22_SameFormula_1 (kBlk 0 (kSeq X c_cabotageref22_SameFormula_0 [] (K_cabotageref22_SameFormula_0 X))) [t2, t3, t5] h = some r := fun hv => lp_step (by decide) hv
theorem s_cabotageref22_SameFormula (X : Rn) (t0 t1 : Value) (h : H) : shFunc X 2 f_cabotageref22_SameFormula [t0, t1] h =
    k2 (some (newPtr h (cellsL t0))) fun t2 h1 =>
    k2 (some (newPtr h1 (cellsL t1))) fun t3 h2 =>
    k2 (some ((.bool false), h2)) fun t4 h3 =>
    k2 (vField 0 t2 h3) fun t6 h4 =>
    k2 (vLoad1 t6 h4) fun t7 h5 =>
    k2 (vField 0 t3 h5) fun t8 h6 =>
    k2 (vLoad1 t8 h6) fun t9 h7 =>
    k2 (vBin .neq .other t7 t9 h7) fun t10 h8 =>
    k2 (some (t10, h8)) fun t11 h9 =>
    k2 (gd t11 false h9 (vField 1 t2 h9)) fun t12 h10 =>
    k2 (gd t11 false h10 (vLoad1 t12 h10)) fun t13 h11 =>
    k2 (gd t11 false h11 (vField 1 t3 h11)) fun t14 h12 =>
    k2 (gd t11 false h12 (vLoad1 t14 h12)) fun t15 h13 =>
    k2 (gd t11 false h13 (vBin .neq .other t13 t15 h13)) fun t16 h14 =>
    k2 (vPick t11 (.bool true) t16 h14) fun t17 h15 =>
    k2 (some (t17, h15)) fun t18 h16 =>
    k2 (gd t18 false h16 (vField 2 t2 h16)) fun t19 h17 =>
    k2 (gd t18 false h17 (vLoad1 t19 h17)) fun t20 h18 =>
    k2 (gd t18 false h18 (bltV h18 .len [t20])) fun t21 h19 =>
    k2 (gd t18 false h19 (vField 2 t3 h19)) fun t22 h20 =>
    k2 (gd t18 false h20 (vLoad1 t22 h20)) fun t23 h21 =>
    k2 (gd t18 false h21 (bltV h21 .len [t23])) fun t24 h22 =>
    k2 (gd t18 false h22 (vBin .neq .other t21 t24 h22)) fun t25 h23 =>
    k2 (vPick t18 (.bool true) t25 h23) fun t26 h24 =>
    br t26
      (k2 (some ((.bool false), h24)) fun t4 h25 =>
    some (.val (tupleOf [t4]) h25))
      (k2 (some ((.int .i64 0), h24)) fun t5 h26 =>
    lp X [p2, p3, p5] c_cabotageref22_SameFormula_1 (kBlk 0 (kSeq X c_cabotageref22_SameFormula_0 [] (K_cabotageref22_SameFormula_0 X))) [t2, t3, t5] h26) := by kernel_rfl
theorem s_judge_Alike (X : Rn) (t0 t1 : Value) (h : H) : shFunc X 2 f_judge_Alike [t0, t1] h =
    k2 (some (newPtr h (cellsL t0))) fun t2 h1 =>
    k2 (some (newPtr h1 (cellsL t1))) fun t3 h2 =>
    k2 (some ((.bool false), h2)) fun t4 h3 =>
    k2 (some ((.int .i64 0), h3)) fun t5 h4 =>
    k2 (vLoadN 3 t2 h4) fun t6 h5 =>
    k2 (vLoadN 3 t3 h5) fun t7 h6 =>
    k2 (X.call (.func (.func n_judge_both) #[] #[]) [t6, t7] h6) fun t8 h7 =>
    k2 (vUn .not t8 h7) fun t9 h8 =>
    br t9
      (k2 (some ((.bool false), h8)) fun t4 h9 =>
    k2 (some ((.int .i64 2), h9)) fun t5 h10 =>
    some (.val (tupleOf [t4, t5]) h10))
      (k2 (vLoadN 3 t2 h8) fun t10 h11 =>
    k2 (vLoadN 3 t3 h11) fun t11 h12 =>
    k2 (X.call (.func (.func n_judge_alike) #[] #[]) [t10, t11] h12) fun t12 h13 =>
    k2 (some (t12, h13)) fun t4 h14 =>
    k2 (some ((.int .i64 0), h14)) fun t5 h15 =>
    some (.val (tupleOf [t4, t5]) h15)) := by kernel_rfl
theorem s_judge_Classes (X : Rn) (t0 : Value) (h : H) : shFunc X 1 f_judge_Classes [t0] h =
    k2 (some (newPtr h (cellsL t0))) fun t1 h1 =>
    k2 (some ((.slice none 0 0), h1)) fun t2 h2 =>
    k2 (some ((.int .i64 0), h2)) fun t3 h3 =>
    k2 (vLoadN 3 t1 h3) fun t4 h4 =>
    k2 (X.call (.func (.func n_judge_Check) #[] #[]) [t4] h4) fun t5 h5 =>
    k2 (vBin .neq .other t5 (.int .i64 0) h5) fun t6 h6 =>
    br t6
      (k2 (some ((.slice none 0 0), h6)) fun t2 h7 =>
    k2 (some ((.int .i64 2), h7)) fun t3 h8 =>
    some (.val (tupleOf [t2, t3]) h8))
      (k2 (vLoadN 3 t1 h6) fun t7 h9 =>
    k2 (X.call (.func (.func n_judge_classes) #[] #[]) [t7] h9) fun t8 h10 =>
    k2 (some (t8, h10)) fun t2 h11 =>
    k2 (some ((.int .i64 0), h11)) fun t3 h12 =>
    some (.val (tupleOf [t2, t3]) h12)) := by kernel_rfl
theorem s_cabotageref03_SameInts_0 (X : Rn) (h : H) : sh X c_cabotageref03_SameInts_0 (K_cabotageref03_SameInts_0 X) (setL [] []) h =
    k2 (some ((.bool true), h)) fun t4 h1 =>
    some (.val (tupleOf [t4]) h1) := by kernel_rfl
theorem s_cabotageref03_SameInts_1 (X : Rn) (t0 t1 t5 : Value) (h : H) : sh X c_cabotageref03_SameInts_1 (K_cabotageref03_SameInts_1 X) (setL [p0, p1, p5] [t0, t1, t5]) h =
    k2 (some (t5, h)) fun t11 h1 =>
    k2 (some (t0, h1)) fun t12 h2 =>
    k2 (bltV h2 .len [t12]) fun t13 h3 =>
    k2 (vBin .lss .other t11 t13 h3) fun t14 h4 =>
    br t14
      (k2 (some (t0, h4)) fun t17 h5 =>
    k2 (some (t5, h5)) fun t18 h6 =>
    k2 (vIndex 1 t17 t18 h6) fun t19 h7 =>
    k2 (rdF (fun b => vLoad1 t19 b) 0 h7 [(0, h4)]) fun t20 h8 =>
    k2 (some (t1, h8)) fun t21 h9 =>
    k2 (some (t5, h9)) fun t22 h10 =>
    k2 (vIndex 1 t21 t22 h10) fun t23 h11 =>
    k2 (rdF (fun b => vLoad1 t23 b) 0 h11 [(0, h4)]) fun t24 h12 =>
    k2 (vBin .neq .other t20 t24 h12) fun t25 h13 =>
    br t25
      (k2 (some ((.bool false), h13)) fun t4 h14 =>
    some (.val (tupleOf [t4]) h14))
      (k2 (some (t5, h13)) fun t15 h15 =>
    k2 (vBin .add .other t15 (.int .i64 1) h15) fun t16 h16 =>
    k2 (some (t16, h16)) fun t5_17 h18 =>
    lp X [p0, p1, p5] c_cabotageref03_SameInts_1 (kBlk 0 (kSeq X c_cabotageref03_SameInts_0 [] (K_cabotageref03_SameInts_0 X))) [t0, t1, t5_17] h18))
      (sh X c_cabotageref03_SameInts_0 (K_cabotageref03_SameInts_0 X) (setL [] []) h4) := by kernel_rfl
theorem l_cabotageref03_SameInts_1 (F : FuncId → Option CFunc) (t0 t1 t5 : Value) (h : H) {r : Out} : let X := rI F; sh X c_cabotageref03_SameInts_1 (K_cabotageref03_SameInts_1 X) (setL [p0, p1, p5] [t0, t1, t5]) h = some r → lp X [p0, p1, p5] c_cabotageref03_SameInts_1 (kBlk 0 (kSeq X c_cabotageref03_SameInts_0 [] (K_cabotageref03_SameInts_0 X))) [t0, t1, t5] h = some r := fun hv => lp_step (by decide) hv
theorem s_cabotageref03_SameInts (X : Rn) (t0 t1 : Value) (h : H) : shFunc X 2 f_cabotageref03_SameInts [t0, t1] h =
    k2 (some ((.bool false), h)) fun t4 h1 =>
    k2 (some (t0, h1)) fun t6 h2 =>
    k2 (bltV h2 .len [t6]) fun t7 h3 =>
    k2 (some (t1, h3)) fun t8 h4 =>
    k2 (bltV h4 .len [t8]) fun t9 h5 =>
    k2 (vBin .neq .other t7 t9 h5) fun t10 h6 =>
    br t10
      (k2 (some ((.bool false), h6)) fun t4 h7 =>
    some (.val (tupleOf [t4]) h7))
      (k2 (some ((.int .i64 0), h6)) fun t5 h8 =>
    lp X [p0, p1, p5] c_cabotageref03_SameInts_1 (kBlk 0 (kSeq X c_cabotageref03_SameInts_0 [] (K_cabotageref03_SameInts_0 X))) [t0, t1, t5] h8) := by kernel_rfl
theorem s_judge_weak_2 (X : Rn) (t2 t3 : Value) (h : H) : sh X c_judge_weak_2 (K_judge_weak_2 X) (setL [p2, p3] [t2, t3]) h =
    k2 (vLoadN 3 t3 h) fun t122 h1 =>
    k2 (vStore 3 t2 t122 h1) fun _ h2 =>
    (vRes (some 3) t2 h2).bind fun r0 => some (.val (tupleOf [r0]) h2) := by kernel_rfl
theorem s_judge_weak_4 (X : Rn) (t1 t2 t3 t4 t39 t40 : Value) (h : H) : sh X c_judge_weak_4 (K_judge_weak_4 X) (setL [p1, p2, p3, p4, p39, p40] [t1, t2, t3, t4, t39, t40]) h =
    k2 (vBin .add .other t40 (.int .i64 1) h) fun t121 h1 =>
    k2 (some (t121, h1)) fun t40_2 h3 =>
    lp X [p1, p2, p3, p4, p39, p40] c_judge_weak_3 (kBlk 2 (kSeq X c_judge_weak_2 [p2, p3] (K_judge_weak_2 X))) [t1, t2, t3, t4, t39, t40_2] h3 := by kernel_rfl
theorem s_judge_weak_14 (X : Rn) (t1 t2 t3 t4 t6 t39 t40 t95 t96 t97 : Value) (h : H) : sh X c_judge_weak_14 (K_judge_weak_14 X) (setL [p1, p2, p3, p4, p6, p39, p40, p95, p96, p97] [t1, t2, t3, t4, t6, t39, t40, t95, t96, t97]) h =
    k2 (vBin .add .other t97 (.int .i64 1) h) fun t120 h1 =>
    k2 (some (t120, h1)) fun t97_2 h3 =>
    lp X [p1, p2, p3, p4, p6, p39, p40, p95, p96, p97] c_judge_weak_13 (kBlk 12 (K_judge_weak_7 X)) [t1, t2, t3, t4, t6, t39, t40, t95, t96, t97_2] h3 := by kernel_rfl
theorem s_judge_weak_16 (X : Rn) (t1 t2 t3 t4 t6 t14 t39 t40 t95 t96 t97 t102 t103 t104 : Value) (h : H) : sh X c_judge_weak_16 (K_judge_weak_16 X) (setL [p1, p2, p3, p4, p6, p14, p39, p40, p95, p96, p97, p102, p103, p104] [t1, t2, t3, t4, t6, t14, t39, t40, t95, t96, t97, t102, t103, t104]) h =
    k2 (vBin .add .other t104 (.int .i64 1) h) fun t119 h1 =>
    k2 (some (t119, h1)) fun t104_2 h3 =>
    lp X [p1, p2, p3, p4, p6, p14, p39, p40, p95, p96, p97, p102, p103, p104] c_judge_weak_15 (kBlk 14 (kBlk 13 (kSeq X c_judge_weak_14 [p1, p2, p3, p4, p6, p39, p40, p95, p96, p97] (K_judge_weak_14 X)))) [t1, t2, t3, t4, t6, t14, t39, t40, t95, t96, t97, t102, t103, t104_2] h3 := by kernel_rfl
theorem s_judge_weak_15 (X : Rn) (t1 t2 t3 t4 t6 t14 t39 t40 t95 t96 t97 t102 t103 t104 : Value) (h : H) : sh X c_judge_weak_15 (K_judge_weak_15 X) (setL [p1, p2, p3, p4, p6, p14, p39, p40, p95, p96, p97, p102, p103, p104] [t1, t2, t3, t4, t6, t14, t39, t40, t95, t96, t97, t102, t103, t104]) h =
    k2 (vBin .lss .other t104 t103 h) fun t105 h1 =>
    br t105
      (k2 (some (t104, h1)) fun t106 h2 =>
    k2 (vIndex 1 t102 t104 h2) fun t107 h3 =>
    k2 (vLoad1 t107 h3) fun t108 h4 =>
    k2 (some (t106, h4)) fun t16 h5 =>
    k2 (some (t108, h5)) fun t17 h6 =>
    k2 (some (t17, h6)) fun t109 h7 =>
    br t109
      (k2 (vField 2 t3 h7) fun t110 h8 =>
    k2 (vLoad1 t110 h8) fun t111 h9 =>
    k2 (some (t6, h9)) fun t112 h10 =>
    k2 (some (t16, h10)) fun t113 h11 =>
    k2 (some (t14, h11)) fun t114 h12 =>
    k2 ((fillL [(.int .i64 0), (.int .i64 0), (.int .i64 0)] [(0, 1, t112), (1, 1, t113), (2, 1, t114)]).map fun c => (Value.agg ⟨c⟩, h12)) fun t115 h13 =>
    k2 (vSlice 1 (fillL (repeatL [(.int .i64 0), (.int .i64 0), (.int .i64 0)] 1) [(0 * 3, 3, t115)]) h13) fun t116 h14 =>
    k2 (bltV h14 (.append 3 24) [t111, t116]) fun t117 h15 =>
    k2 (vField 2 t3 h15) fun t118 h16 =>
    k2 (vStore 1 t118 t117 h16) fun _ h17 =>
    sh X c_judge_weak_16 (K_judge_weak_16 X) (setL [p1, p2, p3, p4, p6, p14, p39, p40, p95, p96, p97, p102, p103, p104] [t1, t2, t3, t4, t6, t14, t39, t40, t95, t96, t97, t102, t103, t104]) h17)
      (sh X c_judge_weak_16 (K_judge_weak_16 X) (setL [p1, p2, p3, p4, p6, p14, p39, p40, p95, p96, p97, p102, p103, p104] [t1, t2, t3, t4, t6, t14, t39, t40, t95, t96, t97, t102, t103, t104]) h7))
      (sh X c_judge_weak_14 (K_judge_weak_14 X) (setL [p1, p2, p3, p4, p6, p39, p40, p95, p96, p97] [t1, t2, t3, t4, t6, t39, t40, t95, t96, t97]) h1) := by kernel_rfl
theorem l_judge_weak_15 (F : FuncId → Option CFunc) (t1 t2 t3 t4 t6 t14 t39 t40 t95 t96 t97 t102 t103 t104 : Value) (h : H) {r : Out} : let X := rI F; sh X c_judge_weak_15 (K_judge_weak_15 X) (setL [p1, p2, p3, p4, p6, p14, p39, p40, p95, p96, p97, p102, p103, p104] [t1, t2, t3, t4, t6, t14, t39, t40, t95, t96, t97, t102, t103, t104]) h = some r → lp X [p1, p2, p3, p4, p6, p14, p39, p40, p95, p96, p97, p102, p103, p104] c_judge_weak_15 (kBlk 14 (kBlk 13 (kSeq X c_judge_weak_14 [p1, p2, p3, p4, p6, p39, p40, p95, p96, p97] (K_judge_weak_14 X)))) [t1, t2, t3, t4, t6, t14, t39, t40, t95, t96, t97, t102, t103, t104] h = some r := fun hv => lp_step (by decide) hv
theorem s_judge_weak_13 (X : Rn) (t1 t2 t3 t4 t6 t39 t40 t95 t96 t97 : Value) (h : H) : sh X c_judge_weak_13 (K_judge_weak_13 X) (setL [p1, p2, p3, p4, p6, p39, p40, p95, p96, p97] [t1, t2, t3, t4, t6, t39, t40, t95, t96, t97]) h =
    k2 (vBin .lss .other t97 t96 h) fun t98 h1 =>
    br t98
      (k2 (some (t97, h1)) fun t99 h2 =>
    k2 (vIndex 1 t95 t97 h2) fun t100 h3 =>
    k2 (vLoad1 t100 h3) fun t101 h4 =>
    k2 (some (t99, h4)) fun t14 h5 =>
    k2 (some (t101, h5)) fun t15 h6 =>
    k2 (some (t15, h6)) fun t102 h7 =>
    k2 (bltV h7 .len [t102]) fun t103 h8 =>
    k2 (some ((.int .i64 0), h8)) fun t104 h9 =>
    lp X [p1, p2, p3, p4, p6, p14, p39, p40, p95, p96, p97, p102, p103, p104] c_judge_weak_15 (kBlk 14 (kBlk 13 (kSeq X c_judge_weak_14 [p1, p2, p3, p4, p6, p39, p40, p95, p96, p97] (K_judge_weak_14 X)))) [t1, t2, t3, t4, t6, t14, t39, t40, t95, t96, t97, t102, t103, t104] h9)
      (sh X c_judge_weak_4 (K_judge_weak_4 X) (setL [p1, p2, p3, p4, p39, p40] [t1, t2, t3, t4, t39, t40]) h1) := by kernel_rfl
theorem l_judge_weak_13 (F : FuncId → Option CFunc) (t1 t2 t3 t4 t6 t39 t40 t95 t96 t97 : Value) (h : H) {r : Out} : let X := rI F; sh X c_judge_weak_13 (K_judge_weak_13 X) (setL [p1, p2, p3, p4, p6, p39, p40, p95, p96, p97] [t1, t2, t3, t4, t6, t39, t40, t95, t96, t97]) h = some r → lp X [p1, p2, p3, p4, p6, p39, p40, p95, p96, p97] c_judge_weak_13 (kBlk 12 (K_judge_weak_7 X)) [t1, t2, t3, t4, t6, t39, t40, t95, t96, t97] h = some r := fun hv => lp_step (by decide) hv
theorem s_judge_weak_7 (X : Rn) (t1 t2 t3 t4 t6 t7 t39 t40 : Value) (h : H) : sh X c_judge_weak_7 (K_judge_weak_7 X) (setL [p1, p2, p3, p4, p6, p7, p39, p40] [t1, t2, t3, t4, t6, t7, t39, t40]) h =
    k2 (vLoad1 t7 h) fun t95 h1 =>
    k2 (bltV h1 .len [t95]) fun t96 h2 =>
    k2 (some ((.int .i64 0), h2)) fun t97 h3 =>
    lp X [p1, p2, p3, p4, p6, p39, p40, p95, p96, p97] c_judge_weak_13 (kBlk 12 (K_judge_weak_7 X)) [t1, t2, t3, t4, t6, t39, t40, t95, t96, t97] h3 := by kernel_rfl
theorem s_judge_weak_9 (X : Rn) (t1 t2 t3 t4 t6 t7 t39 t40 t61 t62 t63 : Value) (h : H) : sh X c_judge_weak_9 (K_judge_weak_9 X) (setL [p1, p2, p3, p4, p6, p7, p39, p40, p61, p62, p63] [t1, t2, t3, t4, t6, t7, t39, t40, t61, t62, t63]) h =
    k2 (vBin .add .other t63 (.int .i64 1) h) fun t94 h1 =>
    k2 (some (t94, h1)) fun t63_2 h3 =>
    lp X [p1, p2, p3, p4, p6, p7, p39, p40, p61, p62, p63] c_judge_weak_8 (kBlk 6 (kSeq X c_judge_weak_7 [p1, p2, p3, p4, p6, p7, p39, p40] (K_judge_weak_7 X))) [t1, t2, t3, t4, t6, t7, t39, t40, t61, t62, t63_2] h3 := by kernel_rfl
theorem s_judge_weak_10 (X : Rn) (l : Nat) (t4 t7 t75 : Value) (h : H) : shRound X r_judge_weak_10 l [t75] (setL [p4, p7] [t4, t7]) h =
    k2 (some (newPtr h [(.int .i64 0), (.int .i64 0), (.int .i64 0)])) fun t11 h1 =>
    k2 (vStore 3 t11 t75 h1) fun _ h2 =>
    busyK l h2 fun h => sh X c_judge_weak_11 (K_judge_weak_11 X l) (setL [p4, p7, p11, p75] [t4, t7, t11, t75]) h := by kernel_rfl
theorem s_judge_weak_12 (X : Rn) (l : Nat) (t7 t11 t80 t81 t82 : Value) (h : H) : sh X c_judge_weak_12 (K_judge_weak_12 X l) (setL [p7, p11, p80, p81, p82] [t7, t11, t80, t81, t82]) h =
    k2 (vBin .lss .other t82 t81 h) fun t83 h1 =>
    br t83
      (k2 (vIndex 1 t80 t82 h1) fun t84 h2 =>
    k2 (vLoad1 t84 h2) fun t85 h3 =>
    k2 (some (t85, h3)) fun t13 h4 =>
    k2 (vLoad1 t7 h4) fun t86 h5 =>
    k2 (vField 2 t11 h5) fun t87 h6 =>
    k2 (vLoad1 t87 h6) fun t88 h7 =>
    k2 (vIndex 1 t86 t88 h7) fun t89 h8 =>
    k2 (vLoad1 t89 h8) fun t90 h9 =>
    k2 (some (t13, h9)) fun t91 h10 =>
    k2 (vIndex 1 t90 t91 h10) fun t92 h11 =>
    k2 (vStore 1 t92 (.bool true) h11) fun _ h12 =>
    k2 (vBin .add .other t82 (.int .i64 1) h12) fun t93 h13 =>
    k2 (some (t93, h13)) fun t82_14 h15 =>
    lp X [p7, p11, p80, p81, p82] c_judge_weak_12 (kBlk 10 (kBlk 9 (K_judge_weak_11 X l))) [t7, t11, t80, t81, t82_14] h15)
      (fin l none h1) := by kernel_rfl
theorem l_judge_weak_12 (l : Nat) (F : FuncId → Option CFunc) (t7 t11 t80 t81 t82 : Value) (h : H) {r : Out} : let X := rI F; sh X c_judge_weak_12 (K_judge_weak_12 X l) (setL [p7, p11, p80, p81, p82] [t7, t11, t80, t81, t82]) h = some r → lp X [p7, p11, p80, p81, p82] c_judge_weak_12 (kBlk 10 (kBlk 9 (K_judge_weak_11 X l))) [t7, t11, t80, t81, t82] h = some r := fun hv => lp_step (by decide) hv
theorem s_judge_weak_11 (X : Rn) (l : Nat) (t4 t7 t11 t75 : Value) (h : H) : sh X c_judge_weak_11 (K_judge_weak_11 X l) (setL [p4, p7, p11, p75] [t4, t7, t11, t75]) h =
    k2 (vLoad1 t4 h) fun t76 h1 =>
    k2 (vField 1 t11 h1) fun t77 h2 =>
    k2 (vLoad1 t77 h2) fun t78 h3 =>
    k2 (vIndex 1 t76 t78 h3) fun t79 h4 =>
    k2 (vLoad1 t79 h4) fun t80 h5 =>
    k2 (bltV h5 .len [t80]) fun t81 h6 =>
    k2 (some ((.int .i64 0), h6)) fun t82 h7 =>
    lp X [p7, p11, p80, p81, p82] c_judge_weak_12 (kBlk 10 (kBlk 9 (K_judge_weak_11 X l))) [t7, t11, t80, t81, t82] h7 := by kernel_rfl
theorem s_judge_weak_8 (X : Rn) (t1 t2 t3 t4 t6 t7 t39 t40 t61 t62 t63 : Value) (h : H) : sh X c_judge_weak_8 (K_judge_weak_8 X) (setL [p1, p2, p3, p4, p6, p7, p39, p40, p61, p62, p63] [t1, t2, t3, t4, t6, t7, t39, t40, t61, t62, t63]) h =
    k2 (vBin .lss .other t63 t62 h) fun t64 h1 =>
    br t64
      (k2 (vIndex 1 t61 t63 h1) fun t65 h2 =>
    k2 (vLoad1 t65 h2) fun t66 h3 =>
    k2 (some (t66, h3)) fun t10 h4 =>
    k2 (vLoad1 t7 h4) fun t67 h5 =>
    k2 (vIndex 1 t67 (.int .i64 0) h5) fun t68 h6 =>
    k2 (vLoad1 t68 h6) fun t69 h7 =>
    k2 (some (t10, h7)) fun t70 h8 =>
    k2 (vIndex 1 t69 t70 h8) fun t71 h9 =>
    k2 (vStore 1 t71 (.bool true) h9) fun _ h10 =>
    k2 (vLoadN 3 t1 h10) fun t72 h11 =>
    k2 (some (t10, h11)) fun t73 h12 =>
    k2 (X.call (.func (.func n_judge_steps) #[] #[]) [t72, t73] h12) fun t74 h13 =>
    (isFn t74).bind fun fv => k2 (X.call fv [.func (.yield h13.next) #[] #[]] (h13.new (.loop .ready none (setL [p4, p7] [t4, t7]) r_judge_weak_10))) fun _ h14 =>
    rgP h13.next h14 (fun h15 => sh X c_judge_weak_9 (K_judge_weak_9 X) (setL [p1, p2, p3, p4, p6, p7, p39, p40, p61, p62, p63] [t1, t2, t3, t4, t6, t7, t39, t40, t61, t62, t63]) h15) (fun i h15 => bx i 8 (sh X c_judge_weak_9 (K_judge_weak_9 X) (setL [p1, p2, p3, p4, p6, p7, p39, p40, p61, p62, p63] [t1, t2, t3, t4, t6, t7, t39, t40, t61, t62, t63]) h15) (bx i 7 (sh X c_judge_weak_9 (K_judge_weak_9 X) (setL [p1, p2, p3, p4, p6, p7, p39, p40, p61, p62, p63] [t1, t2, t3, t4, t6, t7, t39, t40, t61, t62, t63]) h15) (bx i 6 (sh X c_judge_weak_7 (K_judge_weak_7 X) (setL [p1, p2, p3, p4, p6, p7, p39, p40] [t1, t2, t3, t4, t6, t7, t39, t40]) h15) (bx i 3 (sh X c_judge_weak_4 (K_judge_weak_4 X) (setL [p1, p2, p3, p4, p39, p40] [t1, t2, t3, t4, t39, t40]) h15) (bx i 2 (sh X c_judge_weak_2 (K_judge_weak_2 X) (setL [p2, p3] [t2, t3]) h15) (none)))))) (fun h15 => (vRes (some 3) t2 h15).bind fun r0 => some (.val (tupleOf [r0]) h15)))
      (sh X c_judge_weak_7 (K_judge_weak_7 X) (setL [p1, p2, p3, p4, p6, p7, p39, p40] [t1, t2, t3, t4, t6, t7, t39, t40]) h1) := by kernel_rfl
theorem l_judge_weak_8 (F : FuncId → Option CFunc) (t1 t2 t3 t4 t6 t7 t39 t40 t61 t62 t63 : Value) (h : H) {r : Out} : let X := rI F; sh X c_judge_weak_8 (K_judge_weak_8 X) (setL [p1, p2, p3, p4, p6, p7, p39, p40, p61, p62, p63] [t1, t2, t3, t4, t6, t7, t39, t40, t61, t62, t63]) h = some r → lp X [p1, p2, p3, p4, p6, p7, p39, p40, p61, p62, p63] c_judge_weak_8 (kBlk 6 (kSeq X c_judge_weak_7 [p1, p2, p3, p4, p6, p7, p39, p40] (K_judge_weak_7 X))) [t1, t2, t3, t4, t6, t7, t39, t40, t61, t62, t63] h = some r := fun hv => lp_step (by decide) hv
theorem s_judge_weak_5 (X : Rn) (t1 t2 t3 t4 t6 t7 t39 t40 : Value) (h : H) : sh X c_judge_weak_5 (K_judge_weak_5 X) (setL [p1, p2, p3, p4, p6, p7, p39, p40] [t1, t2, t3, t4, t6, t7, t39, t40]) h =
    k2 (vLoad1 t4 h) fun t58 h1 =>
    k2 (some (t6, h1)) fun t59 h2 =>
    k2 (vIndex 1 t58 t59 h2) fun t60 h3 =>
    k2 (vLoad1 t60 h3) fun t61 h4 =>
    k2 (bltV h4 .len [t61]) fun t62 h5 =>
    k2 (some ((.int .i64 0), h5)) fun t63 h6 =>
    lp X [p1, p2, p3, p4, p6, p7, p39, p40, p61, p62, p63] c_judge_weak_8 (kBlk 6 (kSeq X c_judge_weak_7 [p1, p2, p3, p4, p6, p7, p39, p40] (K_judge_weak_7 X))) [t1, t2, t3, t4, t6, t7, t39, t40, t61, t62, t63] h6 := by kernel_rfl
theorem s_judge_weak_6 (X : Rn) (t1 t2 t3 t4 t6 t7 t39 t40 t47 t48 : Value) (h : H) : sh X c_judge_weak_6 (K_judge_weak_6 X) (setL [p1, p2, p3, p4, p6, p7, p39, p40, p47, p48] [t1, t2, t3, t4, t6, t7, t39, t40, t47, t48]) h =
    k2 (vBin .lss .other t48 t47 h) fun t49 h1 =>
    br t49
      (k2 (some (t48, h1)) fun t50 h2 =>
    k2 (some (t50, h2)) fun t8 h3 =>
    k2 (rdF (fun b => vLoad1 t7 b) 0 h3 [(0, h3)]) fun t51 h4 =>
    k2 (some (t8, h4)) fun t52 h5 =>
    k2 (vField 0 t1 h5) fun t53 h6 =>
    k2 (rdF (fun b => vLoad1 t53 b) 0 h6 [(0, h3)]) fun t54 h7 =>
    k2 (makeSliceV 1 [(.bool false)] h7 t54 t54) fun t55 h8 =>
    k2 (vIndex 1 t51 t52 h8) fun t56 h9 =>
    k2 (vStore 1 t56 t55 h9) fun _ h10 =>
    k2 (vBin .add .other t48 (.int .i64 1) h10) fun t57 h11 =>
    k2 (some (t57, h11)) fun t48_12 h13 =>
    lp X [p1, p2, p3, p4, p6, p7, p39, p40, p47, p48] c_judge_weak_6 (kBlk 4 (kSeq X c_judge_weak_5 [p1, p2, p3, p4, p6, p7, p39, p40] (K_judge_weak_5 X))) [t1, t2, t3, t4, t6, t7, t39, t40, t47, t48_12] h13)
      (sh X c_judge_weak_5 (K_judge_weak_5 X) (setL [p1, p2, p3, p4, p6, p7, p39, p40] [t1, t2, t3, t4, t6, t7, t39, t40]) h1) := by kernel_rfl
theorem l_judge_weak_6 (F : FuncId → Option CFunc) (t1 t2 t3 t4 t6 t7 t39 t40 t47 t48 : Value) (h : H) {r : Out} : let X := rI F; sh X c_judge_weak_6 (K_judge_weak_6 X) (setL [p1, p2, p3, p4, p6, p7, p39, p40, p47, p48] [t1, t2, t3, t4, t6, t7, t39, t40, t47, t48]) h = some r → lp X [p1, p2, p3, p4, p6, p7, p39, p40, p47, p48] c_judge_weak_6 (kBlk 4 (kSeq X c_judge_weak_5 [p1, p2, p3, p4, p6, p7, p39, p40] (K_judge_weak_5 X))) [t1, t2, t3, t4, t6, t7, t39, t40, t47, t48] h = some r := fun hv => lp_step (by decide) hv
theorem s_judge_weak_3 (X : Rn) (t1 t2 t3 t4 t39 t40 : Value) (h : H) : sh X c_judge_weak_3 (K_judge_weak_3 X) (setL [p1, p2, p3, p4, p39, p40] [t1, t2, t3, t4, t39, t40]) h =
    k2 (vBin .lss .other t40 t39 h) fun t41 h1 =>
    br t41
      (k2 (some (t40, h1)) fun t42 h2 =>
    k2 (some (t42, h2)) fun t6 h3 =>
    k2 (vField 1 t1 h3) fun t43 h4 =>
    k2 (vLoad1 t43 h4) fun t44 h5 =>
    k2 (makeSliceV 24 [(.slice none 0 0)] h5 t44 t44) fun t45 h6 =>
    k2 (some (newPtr h6 [(.slice none 0 0)])) fun t7 h7 =>
    k2 (vStore 1 t7 t45 h7) fun _ h8 =>
    k2 (vLoad1 t7 h8) fun t46 h9 =>
    k2 (bltV h9 .len [t46]) fun t47 h10 =>
    k2 (some ((.int .i64 0), h10)) fun t48 h11 =>
    lp X [p1, p2, p3, p4, p6, p7, p39, p40, p47, p48] c_judge_weak_6 (kBlk 4 (kSeq X c_judge_weak_5 [p1, p2, p3, p4, p6, p7, p39, p40] (K_judge_weak_5 X))) [t1, t2, t3, t4, t6, t7, t39, t40, t47, t48] h11)
      (sh X c_judge_weak_2 (K_judge_weak_2 X) (setL [p2, p3] [t2, t3]) h1) := by kernel_rfl
theorem l_judge_weak_3 (F : FuncId → Option CFunc) (t1 t2 t3 t4 t39 t40 : Value) (h : H) {r : Out} : let X := rI F; sh X c_judge_weak_3 (K_judge_weak_3 X) (setL [p1, p2, p3, p4, p39, p40] [t1, t2, t3, t4, t39, t40]) h = some r → lp X [p1, p2, p3, p4, p39, p40] c_judge_weak_3 (kBlk 2 (kSeq X c_judge_weak_2 [p2, p3] (K_judge_weak_2 X))) [t1, t2, t3, t4, t39, t40] h = some r := fun hv => lp_step (by decide) hv
theorem s_judge_weak_0 (X : Rn) (t1 t2 t3 t4 : Value) (h : H) : sh X c_judge_weak_0 (K_judge_weak_0 X) (setL [p1, p2, p3, p4] [t1, t2, t3, t4]) h =
    k2 (vField 0 t1 h) fun t38 h1 =>
    k2 (vLoad1 t38 h1) fun t39 h2 =>
    k2 (some ((.int .i64 0), h2)) fun t40 h3 =>
    lp X [p1, p2, p3, p4, p39, p40] c_judge_weak_3 (kBlk 2 (kSeq X c_judge_weak_2 [p2, p3] (K_judge_weak_2 X))) [t1, t2, t3, t4, t39, t40] h3 := by kernel_rfl
theorem s_judge_weak_1 (X : Rn) (t1 t2 t3 t4 t27 t28 : Value) (h : H) : sh X c_judge_weak_1 (K_judge_weak_1 X) (setL [p1, p2, p3, p4, p27, p28] [t1, t2, t3, t4, t27, t28]) h =
    k2 (vBin .lss .other t28 t27 h) fun t29 h1 =>
    br t29
      (k2 (some (t28, h1)) fun t30 h2 =>
    k2 (some (t30, h2)) fun t5 h3 =>
    k2 (rdF (fun b => vLoadN 3 t1 b) 0 h3 [(0, h3)]) fun t33 h4 =>
    k2 (some (t5, h4)) fun t34 h5 =>
    k2 (X.call (.func (.func n_judge_silent) #[] #[]) [t33, t34] h5) fun t35 h6 =>
    k2 (rdF (fun b => vLoad1 t4 b) 0 h6 [(1, h6), (0, h3)]) fun t31 h7 =>
    k2 (some (t5, h7)) fun t32 h8 =>
    k2 (vIndex 1 t31 t32 h8) fun t36 h9 =>
    k2 (vStore 1 t36 t35 h9) fun _ h10 =>
    k2 (vBin .add .other t28 (.int .i64 1) h10) fun t37 h11 =>
    k2 (some (t37, h11)) fun t28_12 h13 =>
    lp X [p1, p2, p3, p4, p27, p28] c_judge_weak_1 (kBlk 0 (kSeq X c_judge_weak_0 [p1, p2, p3, p4] (K_judge_weak_0 X))) [t1, t2, t3, t4, t27, t28_12] h13)
      (sh X c_judge_weak_0 (K_judge_weak_0 X) (setL [p1, p2, p3, p4] [t1, t2, t3, t4]) h1) := by kernel_rfl
theorem l_judge_weak_1 (F : FuncId → Option CFunc) (t1 t2 t3 t4 t27 t28 : Value) (h : H) {r : Out} : let X := rI F; sh X c_judge_weak_1 (K_judge_weak_1 X) (setL [p1, p2, p3, p4, p27, p28] [t1, t2, t3, t4, t27, t28]) h = some r → lp X [p1, p2, p3, p4, p27, p28] c_judge_weak_1 (kBlk 0 (kSeq X c_judge_weak_0 [p1, p2, p3, p4] (K_judge_weak_0 X))) [t1, t2, t3, t4, t27, t28] h = some r := fun hv => lp_step (by decide) hv
theorem s_judge_weak (X : Rn) (t0 : Value) (h : H) : shFunc X 1 f_judge_weak [t0] h =
    k2 (some (newPtr h (cellsL t0))) fun t1 h1 =>
    k2 (some (newPtr h1 [(.int .i64 0), (.int .i64 0), (.slice none 0 0)])) fun t2 h2 =>
    k2 (vField 0 t1 h2) fun t18 h3 =>
    k2 (vLoad1 t18 h3) fun t19 h4 =>
    k2 (vField 1 t1 h4) fun t20 h5 =>
    k2 (vLoad1 t20 h5) fun t21 h6 =>
    k2 ((fillL [(.int .i64 0), (.int .i64 0), (.slice none 0 0)] [(0, 1, t19), (1, 1, t21)]).map fun c => (Value.agg ⟨c⟩, h6)) fun t22 h7 =>
    k2 (some (newPtr h7 [(.int .i64 0), (.int .i64 0), (.slice none 0 0)])) fun t3 h8 =>
    k2 (vStore 3 t3 t22 h8) fun _ h9 =>
    k2 (vField 0 t1 h9) fun t23 h10 =>
    k2 (vLoad1 t23 h10) fun t24 h11 =>
    k2 (makeSliceV 24 [(.slice none 0 0)] h11 t24 t24) fun t25 h12 =>
    k2 (some (newPtr h12 [(.slice none 0 0)])) fun t4 h13 =>
    k2 (vStore 1 t4 t25 h13) fun _ h14 =>
    k2 (vField 0 t1 h14) fun t26 h15 =>
    k2 (vLoad1 t26 h15) fun t27 h16 =>
    k2 (some ((.int .i64 0), h16)) fun t28 h17 =>
    lp X [p1, p2, p3, p4, p27, p28] c_judge_weak_1 (kBlk 0 (kSeq X c_judge_weak_0 [p1, p2, p3, p4] (K_judge_weak_0 X))) [t1, t2, t3, t4, t27, t28] h17 := by kernel_rfl
theorem s_judge_compare (X : Rn) (t0 t1 : Value) (h : H) : shFunc X 2 f_judge_compare [t0, t1] h =
    k2 (some (newPtr h (cellsL t0))) fun t2 h1 =>
    k2 (some (newPtr h1 (cellsL t1))) fun t3 h2 =>
    k2 (some ((.int .i64 0), h2)) fun t4 h3 =>
    k2 (vField 0 t2 h3) fun t5 h4 =>
    k2 (rdF (fun b => vLoad1 t5 b) 0 h4 [(0, h3)]) fun t6 h5 =>
    k2 (vField 0 t3 h5) fun t7 h6 =>
    k2 (rdF (fun b => vLoad1 t7 b) 0 h6 [(0, h3)]) fun t8 h7 =>
    k2 (X.call (.func (.func n_cmp_Compare_int_) #[] #[]) [t6, t8] h7) fun t9 h8 =>
    k2 (vField 2 t2 h8) fun t10 h9 =>
    k2 (rdF (fun b => vLoad1 t10 b) 0 h9 [(1, h8), (0, h3)]) fun t11 h10 =>
    k2 (vField 2 t3 h10) fun t12 h11 =>
    k2 (rdF (fun b => vLoad1 t12 b) 0 h11 [(1, h8), (0, h3)]) fun t13 h12 =>
    k2 (X.call (.func (.func n_cmp_Compare_int_) #[] #[]) [t11, t13] h12) fun t14 h13 =>
    k2 (vField 1 t2 h13) fun t15 h14 =>
    k2 (rdF (fun b => vLoad1 t15 b) 0 h14 [(2, h13), (1, h8), (0, h3)]) fun t16 h15 =>
    k2 (vField 1 t3 h15) fun t17 h16 =>
    k2 (rdF (fun b => vLoad1 t17 b) 0 h16 [(2, h13), (1, h8), (0, h3)]) fun t18 h17 =>
    k2 (X.call (.func (.func n_cmp_Compare_int_) #[] #[]) [t16, t18] h17) fun t19 h18 =>
    k2 (vSlice 3 (fillL (repeatL [(.int .i64 0)] 3) [(0 * 1, 1, t9), (1 * 1, 1, t14), (2 * 1, 1, t19)]) h18) fun t20 h19 =>
    k2 (X.call (.func (.func n_cmp_Or_int_) #[] #[]) [t20] h19) fun t21 h20 =>
    k2 (some (t21, h20)) fun t4 h21 =>
    some (.val (tupleOf [t4]) h21) := by kernel_rfl
theorem s_cabotageref22_less (X : Rn) (t0 t1 : Value) (h : H) : shFunc X 2 f_cabotageref22_less [t0, t1] h =
    k2 (some (newPtr h (cellsL t0))) fun t2 h1 =>
    k2 (some (newPtr h1 (cellsL t1))) fun t3 h2 =>
    k2 (some ((.bool false), h2)) fun t4 h3 =>
    k2 (vField 0 t2 h3) fun t5 h4 =>
    k2 (vLoad1 t5 h4) fun t6 h5 =>
    k2 (vField 0 t3 h5) fun t7 h6 =>
    k2 (vLoad1 t7 h6) fun t8 h7 =>
    k2 (vBin .neq .other t6 t8 h7) fun t9 h8 =>
    br t9
      (k2 (vField 0 t2 h8) fun t10 h9 =>
    k2 (vLoad1 t10 h9) fun t11 h10 =>
    k2 (vField 0 t3 h10) fun t12 h11 =>
    k2 (vLoad1 t12 h11) fun t13 h12 =>
    k2 (vBin .lss .other t11 t13 h12) fun t14 h13 =>
    k2 (some (t14, h13)) fun t4 h14 =>
    some (.val (tupleOf [t4]) h14))
      (k2 (vField 2 t2 h8) fun t15 h15 =>
    k2 (vLoad1 t15 h15) fun t16 h16 =>
    k2 (vField 2 t3 h16) fun t17 h17 =>
    k2 (vLoad1 t17 h17) fun t18 h18 =>
    k2 (vBin .neq .other t16 t18 h18) fun t19 h19 =>
    br t19
      (k2 (vField 2 t2 h19) fun t20 h20 =>
    k2 (vLoad1 t20 h20) fun t21 h21 =>
    k2 (vField 2 t3 h21) fun t22 h22 =>
    k2 (vLoad1 t22 h22) fun t23 h23 =>
    k2 (vBin .lss .other t21 t23 h23) fun t24 h24 =>
    k2 (some (t24, h24)) fun t4 h25 =>
    some (.val (tupleOf [t4]) h25))
      (k2 (vField 1 t2 h19) fun t25 h26 =>
    k2 (vLoad1 t25 h26) fun t26 h27 =>
    k2 (vField 1 t3 h27) fun t27 h28 =>
    k2 (vLoad1 t27 h28) fun t28 h29 =>
    k2 (vBin .lss .other t26 t28 h29) fun t29 h30 =>
    k2 (some (t29, h30)) fun t4 h31 =>
    some (.val (tupleOf [t4]) h31))) := by kernel_rfl
theorem s_cabotagelaw22_edges_0 (X : Rn) (t3 : Value) (h : H) : sh X c_cabotagelaw22_edges_0 (K_cabotagelaw22_edges_0 X) (setL [p3] [t3]) h =
    k2 (some (t3, h)) fun t30 h1 =>
    k2 (some (t30, h1)) fun t2 h2 =>
    some (.val (tupleOf [t2]) h2) := by kernel_rfl
theorem s_cabotagelaw22_edges_1 (X : Rn) (t0 t3 t4 : Value) (h : H) : sh X c_cabotagelaw22_edges_1 (K_cabotagelaw22_edges_1 X) (setL [p0, p3, p4] [t0, t3, t4]) h =
    k2 (some (t4, h)) fun t5 h1 =>
    k2 (some (t0, h1)) fun t6 h2 =>
    k2 (bltV h2 .len [t6]) fun t7 h3 =>
    k2 (vBin .lss .other t5 t7 h3) fun t8 h4 =>
    br t8
      (k2 (some (t3, h4)) fun t11 h5 =>
    k2 (some (t0, h5)) fun t12 h6 =>
    k2 (some (t4, h6)) fun t13 h7 =>
    k2 (vIndex 3 t12 t13 h7) fun t14 h8 =>
    k2 (vIndexA 3 1 t14 (.int .i64 0) h8) fun t15 h9 =>
    k2 (rdF (fun b => vLoad1 t15 b) 0 h9 [(0, h4)]) fun t16 h10 =>
    k2 (some (t0, h10)) fun t17 h11 =>
    k2 (some (t4, h11)) fun t18 h12 =>
    k2 (vIndex 3 t17 t18 h12) fun t19 h13 =>
    k2 (vIndexA 3 1 t19 (.int .i64 1) h13) fun t20 h14 =>
    k2 (rdF (fun b => vLoad1 t20 b) 0 h14 [(0, h4)]) fun t21 h15 =>
    k2 (some (t0, h15)) fun t22 h16 =>
    k2 (some (t4, h16)) fun t23 h17 =>
    k2 (vIndex 3 t22 t23 h17) fun t24 h18 =>
    k2 (vIndexA 3 1 t24 (.int .i64 2) h18) fun t25 h19 =>
    k2 (rdF (fun b => vLoad1 t25 b) 0 h19 [(0, h4)]) fun t26 h20 =>
    k2 ((fillL [(.int .i64 0), (.int .i64 0), (.int .i64 0)] [(0, 1, t16), (1, 1, t21), (2, 1, t26)]).map fun c => (Value.agg ⟨c⟩, h20)) fun t27 h21 =>
    k2 (vSlice 1 (fillL (repeatL [(.int .i64 0), (.int .i64 0), (.int .i64 0)] 1) [(0 * 3, 3, t27)]) h21) fun t28 h22 =>
    k2 (bltV h22 (.append 3 24) [t11, t28]) fun t29 h23 =>
    k2 (some (t29, h23)) fun t3_24 h25 =>
    k2 (some (t4, h25)) fun t9 h26 =>
    k2 (vBin .add .other t9 (.int .i64 1) h26) fun t10 h27 =>
    k2 (some (t10, h27)) fun t4_28 h29 =>
    lp X [p0, p3, p4] c_cabotagelaw22_edges_1 (kBlk 0 (kSeq X c_cabotagelaw22_edges_0 [p3] (K_cabotagelaw22_edges_0 X))) [t0, t3_24, t4_28] h29)
      (sh X c_cabotagelaw22_edges_0 (K_cabotagelaw22_edges_0 X) (setL [p3] [t3]) h4) := by kernel_rfl
theorem l_cabotagelaw22_edges_1 (F : FuncId → Option CFunc) (t0 t3 t4 : Value) (h : H) {r : Out} : let X := rI F; sh X c_cabotagelaw22_edges_1 (K_cabotagelaw22_edges_1 X) (setL [p0, p3, p4] [t0, t3, t4]) h = some r → lp X [p0, p3, p4] c_cabotagelaw22_edges_1 (kBlk 0 (kSeq X c_cabotagelaw22_edges_0 [p3] (K_cabotagelaw22_edges_0 X))) [t0, t3, t4] h = some r := fun hv => lp_step (by decide) hv
theorem s_cabotagelaw22_edges (X : Rn) (t0 : Value) (h : H) : shFunc X 1 f_cabotagelaw22_edges [t0] h =
    k2 (some ((.slice none 0 0), h)) fun t2 h1 =>
    k2 (some ((.slice none 0 0), h1)) fun t3 h2 =>
    k2 (some ((.int .i64 0), h2)) fun t4 h3 =>
    lp X [p0, p3, p4] c_cabotagelaw22_edges_1 (kBlk 0 (kSeq X c_cabotagelaw22_edges_0 [p3] (K_cabotagelaw22_edges_0 X))) [t0, t3, t4] h3 := by kernel_rfl
theorem s_cabotageref22_Both_0 (X : Rn) (t4 t5 : Value) (h : H) : sh X c_cabotageref22_Both_0 (K_cabotageref22_Both_0 X) (setL [p4, p5] [t4, t5]) h =
    k2 (vLoadN 3 t5 h) fun t50 h1 =>
    k2 (vStore 3 t4 t50 h1) fun _ h2 =>
    (vRes (some 3) t4 h2).bind fun r0 => some (.val (tupleOf [r0]) h2) := by kernel_rfl
theorem s_cabotageref22_Both_1 (X : Rn) (t2 t3 t4 t5 t6 : Value) (h : H) : sh X c_cabotageref22_Both_1 (K_cabotageref22_Both_1 X) (setL [p2, p3, p4, p5, p6] [t2, t3, t4, t5, t6]) h =
    k2 (some (t6, h)) fun t20 h1 =>
    k2 (vField 2 t3 h1) fun t21 h2 =>
    k2 (vLoad1 t21 h2) fun t22 h3 =>
    k2 (bltV h3 .len [t22]) fun t23 h4 =>
    k2 (vBin .lss .other t20 t23 h4) fun t24 h5 =>
    br t24
      (k2 (vField 2 t3 h5) fun t27 h6 =>
    k2 (vLoad1 t27 h6) fun t28 h7 =>
    k2 (some (t6, h7)) fun t29 h8 =>
    k2 (vIndex 3 t28 t29 h8) fun t30 h9 =>
    k2 (vLoadN 3 t30 h9) fun t31 h10 =>
    k2 (some (newPtr h10 [(.int .i64 0), (.int .i64 0), (.int .i64 0)])) fun t7 h11 =>
    k2 (vStore 3 t7 t31 h11) fun _ h12 =>
    k2 (vField 2 t5 h12) fun t32 h13 =>
    k2 (vLoad1 t32 h13) fun t33 h14 =>
    k2 (vField 0 t7 h14) fun t34 h15 =>
    k2 (vLoad1 t34 h15) fun t35 h16 =>
    k2 (vField 0 t2 h16) fun t36 h17 =>
    k2 (vLoad1 t36 h17) fun t37 h18 =>
    k2 (vBin .add .other t35 t37 h18) fun t38 h19 =>
    k2 (vField 1 t7 h19) fun t39 h20 =>
    k2 (vLoad1 t39 h20) fun t40 h21 =>
    k2 (vField 0 t2 h21) fun t41 h22 =>
    k2 (vLoad1 t41 h22) fun t42 h23 =>
    k2 (vBin .add .other t40 t42 h23) fun t43 h24 =>
    k2 (vField 2 t7 h24) fun t44 h25 =>
    k2 (vLoad1 t44 h25) fun t45 h26 =>
    k2 ((fillL [(.int .i64 0), (.int .i64 0), (.int .i64 0)] [(0, 1, t38), (1, 1, t43), (2, 1, t45)]).map fun c => (Value.agg ⟨c⟩, h26)) fun t46 h27 =>
    k2 (vSlice 1 (fillL (repeatL [(.int .i64 0), (.int .i64 0), (.int .i64 0)] 1) [(0 * 3, 3, t46)]) h27) fun t47 h28 =>
    k2 (bltV h28 (.append 3 24) [t33, t47]) fun t48 h29 =>
    k2 (vField 2 t5 h29) fun t49 h30 =>
    k2 (vStore 1 t49 t48 h30) fun _ h31 =>
    k2 (some (t6, h31)) fun t25 h32 =>
    k2 (vBin .add .other t25 (.int .i64 1) h32) fun t26 h33 =>
    k2 (some (t26, h33)) fun t6_34 h35 =>
    lp X [p2, p3, p4, p5, p6] c_cabotageref22_Both_1 (kBlk 0 (kSeq X c_cabotageref22_Both_0 [p4, p5] (K_cabotageref22_Both_0 X))) [t2, t3, t4, t5, t6_34] h35)
      (sh X c_cabotageref22_Both_0 (K_cabotageref22_Both_0 X) (setL [p4, p5] [t4, t5]) h5) := by kernel_rfl
theorem l_cabotageref22_Both_1 (F : FuncId → Option CFunc) (t2 t3 t4 t5 t6 : Value) (h : H) {r : Out} : let X := rI F; sh X c_cabotageref22_Both_1 (K_cabotageref22_Both_1 X) (setL [p2, p3, p4, p5, p6] [t2, t3, t4, t5, t6]) h = some r → lp X [p2, p3, p4, p5, p6] c_cabotageref22_Both_1 (kBlk 0 (kSeq X c_cabotageref22_Both_0 [p4, p5] (K_cabotageref22_Both_0 X))) [t2, t3, t4, t5, t6] h = some r := fun hv => lp_step (by decide) hv
theorem s_cabotageref22_Both (X : Rn) (t0 t1 : Value) (h : H) : shFunc X 2 f_cabotageref22_Both [t0, t1] h =
    k2 (some (newPtr h (cellsL t0))) fun t2 h1 =>
    k2 (some (newPtr h1 (cellsL t1))) fun t3 h2 =>
    k2 (some (newPtr h2 [(.int .i64 0), (.int .i64 0), (.slice none 0 0)])) fun t4 h3 =>
    k2 (vSlice 0 (fillL (repeatL [(.int .i64 0), (.int .i64 0), (.int .i64 0)] 0) []) h3) fun t15 h4 =>
    k2 (vField 2 t2 h4) fun t16 h5 =>
    k2 (rdF (fun b => vLoad1 t16 b) 0 h5 [(0, h3)]) fun t17 h6 =>
    k2 (bltV h6 (.append 3 24) [t15, t17]) fun t18 h7 =>
    k2 (vField 0 t2 h7) fun t8 h8 =>
    k2 (rdF (fun b => vLoad1 t8 b) 0 h8 [(1, h7), (0, h3)]) fun t9 h9 =>
    k2 (vField 0 t3 h9) fun t10 h10 =>
    k2 (rdF (fun b => vLoad1 t10 b) 0 h10 [(1, h7), (0, h3)]) fun t11 h11 =>
    k2 (vBin .add .other t9 t11 h11) fun t12 h12 =>
    k2 (vField 1 t2 h12) fun t13 h13 =>
    k2 (rdF (fun b => vLoad1 t13 b) 0 h13 [(1, h7), (0, h3)]) fun t14 h14 =>
    k2 ((fillL [(.int .i64 0), (.int .i64 0), (.slice none 0 0)] [(0, 1, t12), (1, 1, t14), (2, 1, t18)]).map fun c => (Value.agg ⟨c⟩, h14)) fun t19 h15 =>
    k2 (some (newPtr h15 [(.int .i64 0), (.int .i64 0), (.slice none 0 0)])) fun t5 h16 =>
    k2 (vStore 3 t5 t19 h16) fun _ h17 =>
    k2 (some ((.int .i64 0), h17)) fun t6 h18 =>
    lp X [p2, p3, p4, p5, p6] c_cabotageref22_Both_1 (kBlk 0 (kSeq X c_cabotageref22_Both_0 [p4, p5] (K_cabotageref22_Both_0 X))) [t2, t3, t4, t5, t6] h18 := by kernel_rfl
theorem s_judge_isState (X : Rn) (t0 t1 : Value) (h : H) : shFunc X 2 f_judge_isState [t0, t1] h =
    k2 (some (newPtr h (cellsL t0))) fun t2 h1 =>
    k2 (some ((.bool false), h1)) fun t4 h2 =>
    k2 (vLoadN 3 t2 h2) fun t5 h3 =>
    k2 (X.call (.func (.func n_judge_Check) #[] #[]) [t5] h3) fun t6 h4 =>
    k2 (vBin .eql .other t6 (.int .i64 0) h4) fun t7 h5 =>
    k2 (some (t7, h5)) fun t8 h6 =>
    k2 (gd t8 true h6 (some (t1, h6))) fun t9 h7 =>
    k2 (gd t8 true h7 (vBin .geq .other t9 (.int .i64 0) h7)) fun t10 h8 =>
    k2 (vPick t8 t10 (.bool false) h8) fun t11 h9 =>
    k2 (some (t11, h9)) fun t12 h10 =>
    k2 (gd t12 true h10 (some (t1, h10))) fun t13 h11 =>
    k2 (gd t12 true h11 (vField 0 t2 h11)) fun t14 h12 =>
    k2 (gd t12 true h12 (vLoad1 t14 h12)) fun t15 h13 =>
    k2 (gd t12 true h13 (vBin .lss .other t13 t15 h13)) fun t16 h14 =>
    k2 (vPick t12 t16 (.bool false) h14) fun t17 h15 =>
    k2 (some (t17, h15)) fun t4 h16 =>
    some (.val (tupleOf [t4]) h16) := by kernel_rfl
theorem s_judge_apart_1 (X : Rn) (t1 t3 t4 : Value) (h : H) : sh X c_judge_apart_1 (K_judge_apart_1 X) (setL [p1, p3, p4] [t1, t3, t4]) h =
    k2 (some (t4, h)) fun t15 h1 =>
    k2 (vBin .add .other t15 (.int .i64 1) h1) fun t16 h2 =>
    k2 (some (t16, h2)) fun t4_3 h4 =>
    lp X [p1, p3, p4] c_judge_apart_0 (kBlk 0 (fnK [.tmp p2])) [t1, t3, t4_3] h4 := by kernel_rfl
theorem s_judge_apart_8 (X : Rn) (t1 t3 t4 t70 t71 t72 : Value) (h : H) : sh X c_judge_apart_8 (K_judge_apart_8 X) (setL [p1, p3, p4, p70, p71, p72] [t1, t3, t4, t70, t71, t72]) h =
    k2 (vBin .lss .other t72 t71 h) fun t73 h1 =>
    br t73
      (k2 (vIndex 2 t70 t72 h1) fun t74 h2 =>
    k2 (vLoadN 2 t74 h2) fun t75 h3 =>
    k2 (some (newPtr h3 [(.int .i64 0), (.int .i64 0)])) fun t13 h4 =>
    k2 (vStore 2 t13 t75 h4) fun _ h5 =>
    k2 (some (t3, h5)) fun t76 h6 =>
    k2 (rdF (fun b => vLoadN 2 t13 b) 0 h6 [(0, h5)]) fun t77 h7 =>
    k2 (some (t4, h7)) fun t84 h8 =>
    k2 (mapUpd (.leaves [0, 1]) h8 t77 t84 t76) fun _ h9 =>
    k2 (some (t3, h9)) fun t78 h10 =>
    k2 (vIndexA 2 1 t13 (.int .i64 1) h10) fun t79 h11 =>
    k2 (rdF (fun b => vLoad1 t79 b) 0 h11 [(1, h9), (0, h5)]) fun t80 h12 =>
    k2 (vIndexA 2 1 t13 (.int .i64 0) h12) fun t81 h13 =>
    k2 (rdF (fun b => vLoad1 t81 b) 0 h13 [(1, h9), (0, h5)]) fun t82 h14 =>
    k2 ((fillL [(.int .i64 0), (.int .i64 0)] [(0, 1, t80), (1, 1, t82)]).map fun c => (Value.agg ⟨c⟩, h14)) fun t83 h15 =>
    k2 (some (t4, h15)) fun t85 h16 =>
    k2 (mapUpd (.leaves [0, 1]) h16 t83 t85 t78) fun _ h17 =>
    k2 (vBin .add .other t72 (.int .i64 1) h17) fun t86 h18 =>
    k2 (some (t86, h18)) fun t72_19 h20 =>
    lp X [p1, p3, p4, p70, p71, p72] c_judge_apart_8 (kBlk 6 (K_judge_apart_2 X)) [t1, t3, t4, t70, t71, t72_19] h20)
      (sh X c_judge_apart_1 (K_judge_apart_1 X) (setL [p1, p3, p4] [t1, t3, t4]) h1) := by kernel_rfl
theorem l_judge_apart_8 (F : FuncId → Option CFunc) (t1 t3 t4 t70 t71 t72 : Value) (h : H) {r : Out} : let X := rI F; sh X c_judge_apart_8 (K_judge_apart_8 X) (setL [p1, p3, p4, p70, p71, p72] [t1, t3, t4, t70, t71, t72]) h = some r → lp X [p1, p3, p4, p70, p71, p72] c_judge_apart_8 (kBlk 6 (K_judge_apart_2 X)) [t1, t3, t4, t70, t71, t72] h = some r := fun hv => lp_step (by decide) hv
theorem s_judge_apart_2 (X : Rn) (t1 t3 t4 t5 : Value) (h : H) : sh X c_judge_apart_2 (K_judge_apart_2 X) (setL [p1, p3, p4, p5] [t1, t3, t4, t5]) h =
    k2 (some (t5, h)) fun t66 h1 =>
    k2 (bltV h1 .len [t66]) fun t67 h2 =>
    k2 (vBin .eql .other t67 (.int .i64 0) h2) fun t68 h3 =>
    br t68
      (k2 (some (t3, h3)) fun t69 h4 =>
    k2 (some (t69, h4)) fun t2 h5 =>
    some (.val (tupleOf [t2]) h5))
      (k2 (some (t5, h3)) fun t70 h6 =>
    k2 (bltV h6 .len [t70]) fun t71 h7 =>
    k2 (some ((.int .i64 0), h7)) fun t72 h8 =>
    lp X [p1, p3, p4, p70, p71, p72] c_judge_apart_8 (kBlk 6 (K_judge_apart_2 X)) [t1, t3, t4, t70, t71, t72] h8) := by kernel_rfl
theorem s_judge_apart_4 (X : Rn) (t1 t3 t4 t5 t18 t19 : Value) (h : H) : sh X c_judge_apart_4 (K_judge_apart_4 X) (setL [p1, p3, p4, p5, p18, p19] [t1, t3, t4, t5, t18, t19]) h =
    k2 (vBin .add .other t19 (.int .i64 1) h) fun t65 h1 =>
    k2 (some (t65, h1)) fun t19_2 h3 =>
    lp X [p1, p3, p4, p5, p18, p19] c_judge_apart_3 (kBlk 2 (kSeq X c_judge_apart_2 [p1, p3, p4, p5] (K_judge_apart_2 X))) [t1, t3, t4, t5, t18, t19_2] h3 := by kernel_rfl
theorem s_judge_apart_6 (X : Rn) (t1 t3 t4 t5 t6 t18 t19 t22 t23 : Value) (h : H) : sh X c_judge_apart_6 (K_judge_apart_6 X) (setL [p1, p3, p4, p5, p6, p18, p19, p22, p23] [t1, t3, t4, t5, t6, t18, t19, t22, t23]) h =
    k2 (vBin .add .other t23 (.int .i64 1) h) fun t64 h1 =>
    k2 (some (t64, h1)) fun t23_2 h3 =>
    lp X [p1, p3, p4, p5, p6, p18, p19, p22, p23] c_judge_apart_5 (kBlk 4 (kBlk 3 (kSeq X c_judge_apart_4 [p1, p3, p4, p5, p18, p19] (K_judge_apart_4 X)))) [t1, t3, t4, t5, t6, t18, t19, t22, t23_2] h3 := by kernel_rfl
theorem s_judge_apart_7 (X : Rn) (t1 t3 t4 t5 t6 t7 t11 t18 t19 t22 t23 : Value) (h : H) : sh X c_judge_apart_7 (K_judge_apart_7 X) (setL [p1, p3, p4, p5, p6, p7, p11, p18, p19, p22, p23] [t1, t3, t4, t5, t6, t7, t11, t18, t19, t22, t23]) h =
    k2 (some (t11, h)) fun t57 h1 =>
    br t57
      (k2 (some (t5, h1)) fun t58 h2 =>
    k2 (some (t6, h2)) fun t59 h3 =>
    k2 (some (t7, h3)) fun t60 h4 =>
    k2 ((fillL [(.int .i64 0), (.int .i64 0)] [(0, 1, t59), (1, 1, t60)]).map fun c => (Value.agg ⟨c⟩, h4)) fun t61 h5 =>
    k2 (vSlice 1 (fillL (repeatL [(.int .i64 0), (.int .i64 0)] 1) [(0 * 2, 2, t61)]) h5) fun t62 h6 =>
    k2 (bltV h6 (.append 2 16) [t58, t62]) fun t63 h7 =>
    k2 (some (t63, h7)) fun t5_8 h9 =>
    sh X c_judge_apart_6 (K_judge_apart_6 X) (setL [p1, p3, p4, p5, p6, p18, p19, p22, p23] [t1, t3, t4, t5_8, t6, t18, t19, t22, t23]) h9)
      (sh X c_judge_apart_6 (K_judge_apart_6 X) (setL [p1, p3, p4, p5, p6, p18, p19, p22, p23] [t1, t3, t4, t5, t6, t18, t19, t22, t23]) h1) := by kernel_rfl
theorem s_judge_apart_5 (X : Rn) (t1 t3 t4 t5 t6 t18 t19 t22 t23 : Value) (h : H) : sh X c_judge_apart_5 (K_judge_apart_5 X) (setL [p1, p3, p4, p5, p6, p18, p19, p22, p23] [t1, t3, t4, t5, t6, t18, t19, t22, t23]) h =
    k2 (vBin .lss .other t23 t22 h) fun t24 h1 =>
    br t24
      (k2 (some (t23, h1)) fun t25 h2 =>
    k2 (some (t25, h2)) fun t7 h3 =>
    k2 (some (t3, h3)) fun t27 h4 =>
    k2 (some (t6, h4)) fun t28 h5 =>
    k2 (some (t7, h5)) fun t29 h6 =>
    k2 ((fillL [(.int .i64 0), (.int .i64 0)] [(0, 1, t28), (1, 1, t29)]).map fun c => (Value.agg ⟨c⟩, h6)) fun t30 h7 =>
    k2 (vLookup (.leaves [0, 1]) (.int .i64 0) true t27 t30 h7) fun t31 h8 =>
    k2 (some (t31, h8)) fun t26 h9 =>
    k2 (vExtract 0 t26 h9) fun t32 h10 =>
    k2 (vExtract 1 t26 h10) fun t33 h11 =>
    k2 (some (t32, h11)) fun t8 h12 =>
    k2 (some (t33, h12)) fun t9 h13 =>
    k2 (some (t9, h13)) fun t34 h14 =>
    br t34
      (sh X c_judge_apart_6 (K_judge_apart_6 X) (setL [p1, p3, p4, p5, p6, p18, p19, p22, p23] [t1, t3, t4, t5, t6, t18, t19, t22, t23]) h14)
      (k2 (some (t3, h14)) fun t36 h15 =>
    k2 (vLoadN 3 t1 h15) fun t37 h16 =>
    k2 (some (t6, h16)) fun t38 h17 =>
    k2 (some (t7, h17)) fun t39 h18 =>
    k2 (some (t4, h18)) fun t40 h19 =>
    k2 (vBin .sub .other t40 (.int .i64 1) h19) fun t41 h20 =>
    k2 (X.call (.func (.func n_judge_rounds_first) #[] #[]) [t36, t37, t38, t39, t41] h20) fun t42 h21 =>
    k2 (some (t42, h21)) fun t35 h22 =>
    k2 (vExtract 0 t35 h22) fun t43 h23 =>
    k2 (vExtract 1 t35 h23) fun t44 h24 =>
    k2 (some (newPtr h24 [(.int .i64 0), (.int .i64 0), (.int .i64 0)])) fun t10 h25 =>
    k2 (vStore 3 t10 t43 h25) fun _ h26 =>
    k2 (some (t44, h26)) fun t11 h27 =>
    k2 (some (t11, h27)) fun t45 h28 =>
    k2 (vUn .not t45 h28) fun t46 h29 =>
    br t46
      (k2 (some (t3, h29)) fun t48 h30 =>
    k2 (vLoadN 3 t1 h30) fun t49 h31 =>
    k2 (some (t7, h31)) fun t50 h32 =>
    k2 (some (t6, h32)) fun t51 h33 =>
    k2 (some (t4, h33)) fun t52 h34 =>
    k2 (vBin .sub .other t52 (.int .i64 1) h34) fun t53 h35 =>
    k2 (X.call (.func (.func n_judge_rounds_first) #[] #[]) [t48, t49, t50, t51, t53] h35) fun t54 h36 =>
    k2 (some (t54, h36)) fun t47 h37 =>
    k2 (vExtract 0 t47 h37) fun t55 h38 =>
    k2 (vExtract 1 t47 h38) fun t56 h39 =>
    k2 (some (t56, h39)) fun t11_40 h41 =>
    sh X c_judge_apart_7 (K_judge_apart_7 X) (setL [p1, p3, p4, p5, p6, p7, p11, p18, p19, p22, p23] [t1, t3, t4, t5, t6, t7, t11_40, t18, t19, t22, t23]) h41)
      (sh X c_judge_apart_7 (K_judge_apart_7 X) (setL [p1, p3, p4, p5, p6, p7, p11, p18, p19, p22, p23] [t1, t3, t4, t5, t6, t7, t11, t18, t19, t22, t23]) h29)))
      (sh X c_judge_apart_4 (K_judge_apart_4 X) (setL [p1, p3, p4, p5, p18, p19] [t1, t3, t4, t5, t18, t19]) h1) := by kernel_rfl
theorem l_judge_apart_5 (F : FuncId → Option CFunc) (t1 t3 t4 t5 t6 t18 t19 t22 t23 : Value) (h : H) {r : Out} : let X := rI F; sh X c_judge_apart_5 (K_judge_apart_5 X) (setL [p1, p3, p4, p5, p6, p18, p19, p22, p23] [t1, t3, t4, t5, t6, t18, t19, t22, t23]) h = some r → lp X [p1, p3, p4, p5, p6, p18, p19, p22, p23] c_judge_apart_5 (kBlk 4 (kBlk 3 (kSeq X c_judge_apart_4 [p1, p3, p4, p5, p18, p19] (K_judge_apart_4 X)))) [t1, t3, t4, t5, t6, t18, t19, t22, t23] h = some r := fun hv => lp_step (by decide) hv
theorem s_judge_apart_3 (X : Rn) (t1 t3 t4 t5 t18 t19 : Value) (h : H) : sh X c_judge_apart_3 (K_judge_apart_3 X) (setL [p1, p3, p4, p5, p18, p19] [t1, t3, t4, t5, t18, t19]) h =
    k2 (vBin .lss .other t19 t18 h) fun t20 h1 =>
    br t20
      (k2 (some (t19, h1)) fun t21 h2 =>
    k2 (some (t21, h2)) fun t6 h3 =>
    k2 (some (t6, h3)) fun t22 h4 =>
    k2 (some ((.int .i64 0), h4)) fun t23 h5 =>
    lp X [p1, p3, p4, p5, p6, p18, p19, p22, p23] c_judge_apart_5 (kBlk 4 (kBlk 3 (kSeq X c_judge_apart_4 [p1, p3, p4, p5, p18, p19] (K_judge_apart_4 X)))) [t1, t3, t4, t5, t6, t18, t19, t22, t23] h5)
      (sh X c_judge_apart_2 (K_judge_apart_2 X) (setL [p1, p3, p4, p5] [t1, t3, t4, t5]) h1) := by kernel_rfl
theorem l_judge_apart_3 (F : FuncId → Option CFunc) (t1 t3 t4 t5 t18 t19 : Value) (h : H) {r : Out} : let X := rI F; sh X c_judge_apart_3 (K_judge_apart_3 X) (setL [p1, p3, p4, p5, p18, p19] [t1, t3, t4, t5, t18, t19]) h = some r → lp X [p1, p3, p4, p5, p18, p19] c_judge_apart_3 (kBlk 2 (kSeq X c_judge_apart_2 [p1, p3, p4, p5] (K_judge_apart_2 X))) [t1, t3, t4, t5, t18, t19] h = some r := fun hv => lp_step (by decide) hv
theorem s_judge_apart_0 (X : Rn) (t1 t3 t4 : Value) (h : H) : sh X c_judge_apart_0 (K_judge_apart_0 X) (setL [p1, p3, p4] [t1, t3, t4]) h =
    k2 (some ((.slice none 0 0), h)) fun t5 h1 =>
    k2 (vField 0 t1 h1) fun t17 h2 =>
    k2 (vLoad1 t17 h2) fun t18 h3 =>
    k2 (some ((.int .i64 0), h3)) fun t19 h4 =>
    lp X [p1, p3, p4, p5, p18, p19] c_judge_apart_3 (kBlk 2 (kSeq X c_judge_apart_2 [p1, p3, p4, p5] (K_judge_apart_2 X))) [t1, t3, t4, t5, t18, t19] h4 := by kernel_rfl
theorem l_judge_apart_0 (F : FuncId → Option CFunc) (t1 t3 t4 : Value) (h : H) {r : Out} : let X := rI F; sh X c_judge_apart_0 (K_judge_apart_0 X) (setL [p1, p3, p4] [t1, t3, t4]) h = some r → lp X [p1, p3, p4] c_judge_apart_0 (kBlk 0 (fnK [.tmp p2])) [t1, t3, t4] h = some r := fun hv => lp_step (by decide) hv
theorem s_judge_apart (X : Rn) (t0 : Value) (h : H) : shFunc X 1 f_judge_apart [t0] h =
    k2 (some (newPtr h (cellsL t0))) fun t1 h1 =>
    k2 (some ((.map none), h1)) fun t2 h2 =>
    k2 (some (.map (some h2.next), h2.new (.map [] 0))) fun t14 h3 =>
    k2 (some (t14, h3)) fun t3 h4 =>
    k2 (some ((.int .i64 1), h4)) fun t4 h5 =>
    lp X [p1, p3, p4] c_judge_apart_0 (kBlk 0 (fnK [.tmp p2])) [t1, t3, t4] h5 := by kernel_rfl
theorem s_judge_teller_size_0 (X : Rn) (t3 t7 t10 : Value) (h : H) : sh X c_judge_teller_size_0 (K_judge_teller_size_0 X) (setL [p3, p7, p10] [t3, t7, t10]) h =
    k2 (vField 4 t3 h) fun t63 h1 =>
    k2 (vLoad1 t63 h1) fun t64 h2 =>
    k2 (vLoadN 2 t7 h2) fun t65 h3 =>
    k2 (vLoad1 t10 h3) fun t66 h4 =>
    k2 (mapUpd (.leaves [0, 1]) h4 t65 t66 t64) fun _ h5 =>
    k2 (vLoad1 t10 h5) fun t67 h6 =>
    k2 (some (t67, h6)) fun t6 h7 =>
    some (.val (tupleOf [t6]) h7) := by kernel_rfl
theorem s_judge_teller_size_1 (X : Rn) (l : Nat) (t3 t10 t11 t48 : Value) (h : H) : shRound X r_judge_teller_size_1 l [t48] (setL [p3, p10, p11] [t3, t10, t11]) h =
    k2 (some (t48, h)) fun t13 h1 =>
    busyK l h1 fun h => sh X c_judge_teller_size_2 (K_judge_teller_size_2 X l) (setL [p3, p10, p11, p13, p48] [t3, t10, t11, t13, t48]) h := by kernel_rfl
theorem s_judge_teller_size_2 (X : Rn) (l : Nat) (t3 t10 t11 t13 t48 : Value) (h : H) : sh X c_judge_teller_size_2 (K_judge_teller_size_2 X l) (setL [p3, p10, p11, p13, p48] [t3, t10, t11, t13, t48]) h =
    k2 (rdF (fun b => vLoadN 5 t3 b) 0 h [(0, h)]) fun t50 h1 =>
    k2 (vField 1 t11 h1) fun t51 h2 =>
    k2 (rdF (fun b => vLoad1 t51 b) 0 h2 [(0, h)]) fun t52 h3 =>
    k2 (some (t13, h3)) fun t53 h4 =>
    k2 (X.call (.func (.func n_judge_teller_size) #[] #[]) [t50, t52, t53] h4) fun t54 h5 =>
    k2 (rdF (fun b => vLoad1 t10 b) 0 h5 [(1, h5), (0, h)]) fun t49 h6 =>
    k2 (vBin .add .other t49 t54 h6) fun t55 h7 =>
    k2 (bltV h7 .min [t55, (.int .i64 3001)]) fun t56 h8 =>
    k2 (vStore 1 t10 t56 h8) fun _ h9 =>
    fin l none h9 := by kernel_rfl
theorem s_judge_teller_size (X : Rn) (t0 t1 t2 : Value) (h : H) : shFunc X 3 f_judge_teller_size [t0, t1, t2] h =
    k2 (some (newPtr h (cellsL t0))) fun t3 h1 =>
    k2 (some ((.int .i64 0), h1)) fun t6 h2 =>
    k2 (some (t1, h2)) fun t14 h3 =>
    k2 (some (t2, h3)) fun t15 h4 =>
    k2 ((fillL [(.int .i64 0), (.int .i64 0)] [(0, 1, t14), (1, 1, t15)]).map fun c => (Value.agg ⟨c⟩, h4)) fun t16 h5 =>
    k2 (some (newPtr h5 [(.int .i64 0), (.int .i64 0)])) fun t7 h6 =>
    k2 (vStore 2 t7 t16 h6) fun _ h7 =>
    k2 (vField 4 t3 h7) fun t18 h8 =>
    k2 (vLoad1 t18 h8) fun t19 h9 =>
    k2 (vLoadN 2 t7 h9) fun t20 h10 =>
    k2 (vLookup (.leaves [0, 1]) (.int .i64 0) true t19 t20 h10) fun t21 h11 =>
    k2 (some (t21, h11)) fun t17 h12 =>
    k2 (vExtract 0 t17 h12) fun t22 h13 =>
    k2 (vExtract 1 t17 h13) fun t23 h14 =>
    k2 (some (t22, h14)) fun t8 h15 =>
    k2 (some (t23, h15)) fun t9 h16 =>
    k2 (some (t9, h16)) fun t24 h17 =>
    br t24
      (k2 (some (t8, h17)) fun t25 h18 =>
    k2 (some (t25, h18)) fun t6_19 h20 =>
    some (.val (tupleOf [t6_19]) h20))
      (k2 (some (newPtr h17 [(.int .i64 0)])) fun t10 h21 =>
    k2 (vStore 1 t10 (.int .i64 1) h21) fun _ h22 =>
    k2 (vField 0 t3 h22) fun t27 h23 =>
    k2 (rdF (fun b => vLoad1 t27 b) 0 h23 [(0, h22)]) fun t28 h24 =>
    k2 (vField 1 t3 h24) fun t29 h25 =>
    k2 (rdF (fun b => vLoadN 3 t29 b) 0 h25 [(0, h22)]) fun t30 h26 =>
    k2 (some (t1, h26)) fun t31 h27 =>
    k2 (some (t2, h27)) fun t32 h28 =>
    k2 (vField 0 t3 h28) fun t33 h29 =>
    k2 (rdF (fun b => vLoad1 t33 b) 0 h29 [(0, h22)]) fun t34 h30 =>
    k2 (rdF (fun b => vLoadN 2 t7 b) 0 h30 [(0, h22)]) fun t35 h31 =>
    k2 (rdF (fun b => vLookup (.leaves [0, 1]) (.int .i64 0) false t34 t35 b) 0 h31 [(0, h22)]) fun t36 h32 =>
    k2 (vBin .sub .other t36 (.int .i64 1) h32) fun t37 h33 =>
    k2 (X.call (.func (.func n_judge_rounds_first) #[] #[]) [t28, t30, t31, t32, t37] h33) fun t38 h34 =>
    k2 (some (t38, h34)) fun t26 h35 =>
    k2 (vExtract 0 t26 h35) fun t39 h36 =>
    k2 (some (newPtr h36 [(.int .i64 0), (.int .i64 0), (.int .i64 0)])) fun t11 h37 =>
    k2 (vStore 3 t11 t39 h37) fun _ h38 =>
    k2 (vExtract 1 t26 h38) fun t40 h39 =>
    k2 (some (t40, h39)) fun t12 h40 =>
    k2 (some (t12, h40)) fun t41 h41 =>
    br t41
      (k2 (vStore 1 t10 (.int .i64 2) h41) fun _ h42 =>
    k2 (vField 1 t3 h42) fun t42 h43 =>
    k2 (vLoadN 3 t42 h43) fun t43 h44 =>
    k2 (some (t2, h44)) fun t44 h45 =>
    k2 (vField 2 t11 h45) fun t45 h46 =>
    k2 (vLoad1 t45 h46) fun t46 h47 =>
    k2 (X.call (.func (.func n_judge_leads) #[] #[]) [t43, t44, t46] h47) fun t47 h48 =>
    (isFn t47).bind fun fv => k2 (X.call fv [.func (.yield h48.next) #[] #[]] (h48.new (.loop .ready none (setL [p3, p10, p11] [t3, t10, t11]) r_judge_teller_size_1))) fun _ h49 =>
    rgP h48.next h49 (fun h50 => sh X c_judge_teller_size_0 (K_judge_teller_size_0 X) (setL [p3, p7, p10] [t3, t7, t10]) h50) (fun i h50 => bx i 0 (sh X c_judge_teller_size_0 (K_judge_teller_size_0 X) (setL [p3, p7, p10] [t3, t7, t10]) h50) (none)) (fun h50 => some (.val (tupleOf [t6]) h50)))
      (k2 (vLoadN 5 t3 h41) fun t57 h51 =>
    k2 (some (t2, h51)) fun t58 h52 =>
    k2 (some (t1, h52)) fun t59 h53 =>
    k2 (X.call (.func (.func n_judge_teller_size) #[] #[]) [t57, t58, t59] h53) fun t60 h54 =>
    k2 (vBin .add .other (.int .i64 1) t60 h54) fun t61 h55 =>
    k2 (bltV h55 .min [t61, (.int .i64 3001)]) fun t62 h56 =>
    k2 (vStore 1 t10 t62 h56) fun _ h57 =>
    sh X c_judge_teller_size_0 (K_judge_teller_size_0 X) (setL [p3, p7, p10] [t3, t7, t10]) h57)) := by kernel_rfl
theorem s_judge_teller_formula_0 (X : Rn) (t6 t7 t9 : Value) (h : H) : sh X c_judge_teller_formula_0 (K_judge_teller_formula_0 X) (setL [p6, p7, p9] [t6, t7, t9]) h =
    k2 (vField 2 t7 h) fun t56 h1 =>
    k2 (vLoad1 t56 h1) fun t57 h2 =>
    k2 (vLoadN 3 t9 h2) fun t58 h3 =>
    k2 (vSlice 1 (fillL (repeatL [(.int .i64 0), (.int .i64 0), (.slice none 0 0)] 1) [(0 * 3, 3, t58)]) h3) fun t59 h4 =>
    k2 ((fillL [(.int .i64 0), (.int .i64 0), (.slice none 0 0)] [(0, 1, (.int .i64 4)), (1, 1, t57), (2, 1, t59)]).map fun c => (Value.agg ⟨c⟩, h4)) fun t60 h5 =>
    k2 (vStore 3 t6 t60 h5) fun _ h6 =>
    (vRes (some 3) t6 h6).bind fun r0 => some (.val (tupleOf [r0]) h6) := by kernel_rfl
theorem s_judge_teller_formula_1 (X : Rn) (l : Nat) (t3 t7 t9 t43 : Value) (h : H) : shRound X r_judge_teller_formula_1 l [t43] (setL [p3, p7, p9] [t3, t7, t9]) h =
    k2 (some (t43, h)) fun t10 h1 =>
    busyK l h1 fun h => sh X c_judge_teller_formula_2 (K_judge_teller_formula_2 X l) (setL [p3, p7, p9, p10, p43] [t3, t7, t9, t10, t43]) h := by kernel_rfl
theorem s_judge_teller_formula_2 (X : Rn) (l : Nat) (t3 t7 t9 t10 t43 : Value) (h : H) : sh X c_judge_teller_formula_2 (K_judge_teller_formula_2 X l) (setL [p3, p7, p9, p10, p43] [t3, t7, t9, t10, t43]) h =
    k2 (rdF (fun b => vLoadN 5 t3 b) 0 h [(0, h)]) fun t46 h1 =>
    k2 (vField 1 t7 h1) fun t47 h2 =>
    k2 (rdF (fun b => vLoad1 t47 b) 0 h2 [(0, h)]) fun t48 h3 =>
    k2 (some (t10, h3)) fun t49 h4 =>
    k2 (X.call (.func (.func n_judge_teller_formula) #[] #[]) [t46, t48, t49] h4) fun t50 h5 =>
    k2 (vField 2 t9 h5) fun t44 h6 =>
    k2 (rdF (fun b => vLoad1 t44 b) 0 h6 [(1, h5), (0, h)]) fun t45 h7 =>
    k2 (bltV h7 .len [t45]) fun t51 h8 =>
    k2 (vSlice 1 (fillL (repeatL [(.int .i64 0), (.int .i64 0), (.slice none 0 0)] 1) [(0 * 3, 3, (.agg ⟨[(.int .i64 0), (.int .i64 0), (.slice none 0 0)]⟩))]) h8) fun t52 h9 =>
    k2 (bltV h9 (.append 3 40) [t45, t52]) fun t53 h10 =>
    k2 (vIndex 3 t53 t51 h10) fun t54 h11 =>
    k2 (vField 2 t9 h11) fun t55 h12 =>
    st2 (store2 3 t54 t50 1 t55 t53 h12) fun h13 =>
    fin l none h13 := by kernel_rfl
theorem s_judge_teller_formula (X : Rn) (t0 t1 t2 : Value) (h : H) : shFunc X 3 f_judge_teller_formula [t0, t1, t2] h =
    k2 (some (newPtr h (cellsL t0))) fun t3 h1 =>
    k2 (some (newPtr h1 [(.int .i64 0), (.int .i64 0), (.slice none 0 0)])) fun t6 h2 =>
    k2 (vField 0 t3 h2) fun t12 h3 =>
    k2 (rdF (fun b => vLoad1 t12 b) 0 h3 [(0, h2)]) fun t13 h4 =>
    k2 (vField 1 t3 h4) fun t14 h5 =>
    k2 (rdF (fun b => vLoadN 3 t14 b) 0 h5 [(0, h2)]) fun t15 h6 =>
    k2 (some (t1, h6)) fun t16 h7 =>
    k2 (some (t2, h7)) fun t17 h8 =>
    k2 (vField 0 t3 h8) fun t18 h9 =>
    k2 (rdF (fun b => vLoad1 t18 b) 0 h9 [(0, h2)]) fun t19 h10 =>
    k2 (some (t1, h10)) fun t20 h11 =>
    k2 (some (t2, h11)) fun t21 h12 =>
    k2 ((fillL [(.int .i64 0), (.int .i64 0)] [(0, 1, t20), (1, 1, t21)]).map fun c => (Value.agg ⟨c⟩, h12)) fun t22 h13 =>
    k2 (rdF (fun b => vLookup (.leaves [0, 1]) (.int .i64 0) false t19 t22 b) 0 h13 [(0, h2)]) fun t23 h14 =>
    k2 (vBin .sub .other t23 (.int .i64 1) h14) fun t24 h15 =>
    k2 (X.call (.func (.func n_judge_rounds_first) #[] #[]) [t13, t15, t16, t17, t24] h15) fun t25 h16 =>
    k2 (some (t25, h16)) fun t11 h17 =>
    k2 (vExtract 0 t11 h17) fun t26 h18 =>
    k2 (some (newPtr h18 [(.int .i64 0), (.int .i64 0), (.int .i64 0)])) fun t7 h19 =>
    k2 (vStore 3 t7 t26 h19) fun _ h20 =>
    k2 (vExtract 1 t11 h20) fun t27 h21 =>
    k2 (some (t27, h21)) fun t8 h22 =>
    k2 (some (t8, h22)) fun t28 h23 =>
    k2 (vUn .not t28 h23) fun t29 h24 =>
    br t29
      (k2 (vLoadN 5 t3 h24) fun t30 h25 =>
    k2 (some (t2, h25)) fun t31 h26 =>
    k2 (some (t1, h26)) fun t32 h27 =>
    k2 (X.call (.func (.func n_judge_teller_formula) #[] #[]) [t30, t31, t32] h27) fun t33 h28 =>
    k2 (vSlice 1 (fillL (repeatL [(.int .i64 0), (.int .i64 0), (.slice none 0 0)] 1) [(0 * 3, 3, t33)]) h28) fun t34 h29 =>
    k2 ((fillL [(.int .i64 0), (.int .i64 0), (.slice none 0 0)] [(0, 1, (.int .i64 2)), (2, 1, t34)]).map fun c => (Value.agg ⟨c⟩, h29)) fun t35 h30 =>
    k2 (vStore 3 t6 t35 h30) fun _ h31 =>
    (vRes (some 3) t6 h31).bind fun r0 => some (.val (tupleOf [r0]) h31))
      (k2 ((fillL [(.int .i64 0), (.int .i64 0), (.slice none 0 0)] [(0, 1, (.int .i64 3))]).map fun c => (Value.agg ⟨c⟩, h24)) fun t36 h32 =>
    k2 (some (newPtr h32 [(.int .i64 0), (.int .i64 0), (.slice none 0 0)])) fun t9 h33 =>
    k2 (vStore 3 t9 t36 h33) fun _ h34 =>
    k2 (vField 1 t3 h34) fun t37 h35 =>
    k2 (vLoadN 3 t37 h35) fun t38 h36 =>
    k2 (some (t2, h36)) fun t39 h37 =>
    k2 (vField 2 t7 h37) fun t40 h38 =>
    k2 (vLoad1 t40 h38) fun t41 h39 =>
    k2 (X.call (.func (.func n_judge_leads) #[] #[]) [t38, t39, t41] h39) fun t42 h40 =>
    (isFn t42).bind fun fv => k2 (X.call fv [.func (.yield h40.next) #[] #[]] (h40.new (.loop .ready none (setL [p3, p7, p9] [t3, t7, t9]) r_judge_teller_formula_1))) fun _ h41 =>
    rgP h40.next h41 (fun h42 => sh X c_judge_teller_formula_0 (K_judge_teller_formula_0 X) (setL [p6, p7, p9] [t6, t7, t9]) h42) (fun i h42 => bx i 0 (sh X c_judge_teller_formula_0 (K_judge_teller_formula_0 X) (setL [p6, p7, p9] [t6, t7, t9]) h42) (none)) (fun h42 => (vRes (some 3) t6 h42).bind fun r0 => some (.val (tupleOf [r0]) h42))) := by kernel_rfl
theorem s_cabotageref22_Rounds_3 (X : Rn) (t1 t3 t4 t6 : Value) (h : H) : sh X c_cabotageref22_Rounds_3 (K_cabotageref22_Rounds_3 X) (setL [p1, p3, p4, p6] [t1, t3, t4, t6]) h =
    k2 (some (t6, h)) fun t29 h1 =>
    k2 (vBin .add .other t29 (.int .i64 1) h1) fun t30 h2 =>
    k2 (some (t30, h2)) fun t6_3 h4 =>
    lp X [p1, p3, p4, p6] c_cabotageref22_Rounds_2 (kBlk 2 (K_cabotageref22_Rounds_0 X)) [t1, t3, t4, t6_3] h4 := by kernel_rfl
theorem s_cabotageref22_Rounds_9 (X : Rn) (t1 t3 t4 t6 t7 t10 : Value) (h : H) : sh X c_cabotageref22_Rounds_9 (K_cabotageref22_Rounds_9 X) (setL [p1, p3, p4, p6, p7, p10] [t1, t3, t4, t6, t7, t10]) h =
    k2 (some (t10, h)) fun t75 h1 =>
    k2 (some (t7, h1)) fun t76 h2 =>
    k2 (bltV h2 .len [t76]) fun t77 h3 =>
    k2 (vBin .lss .other t75 t77 h3) fun t78 h4 =>
    br t78
      (k2 (some (t4, h4)) fun t81 h5 =>
    k2 (some (t7, h5)) fun t82 h6 =>
    k2 (some (t10, h6)) fun t83 h7 =>
    k2 (vIndex 2 t82 t83 h7) fun t84 h8 =>
    k2 (vIndexA 2 1 t84 (.int .i64 0) h8) fun t85 h9 =>
    k2 (rdF (fun b => vLoad1 t85 b) 0 h9 [(0, h4)]) fun t86 h10 =>
    k2 (vIndex 1 t81 t86 h10) fun t87 h11 =>
    k2 (rdF (fun b => vLoad1 t87 b) 0 h11 [(0, h4)]) fun t88 h12 =>
    k2 (some (t7, h12)) fun t89 h13 =>
    k2 (some (t10, h13)) fun t90 h14 =>
    k2 (vIndex 2 t89 t90 h14) fun t91 h15 =>
    k2 (vIndexA 2 1 t91 (.int .i64 1) h15) fun t92 h16 =>
    k2 (rdF (fun b => vLoad1 t92 b) 0 h16 [(0, h4)]) fun t93 h17 =>
    k2 (some (t6, h17)) fun t94 h18 =>
    k2 (vIndex 1 t88 t93 h18) fun t95 h19 =>
    k2 (vStore 1 t95 t94 h19) fun _ h20 =>
    k2 (some (t10, h20)) fun t79 h21 =>
    k2 (vBin .add .other t79 (.int .i64 1) h21) fun t80 h22 =>
    k2 (some (t80, h22)) fun t10_23 h24 =>
    lp X [p1, p3, p4, p6, p7, p10] c_cabotageref22_Rounds_9 (kBlk 8 (K_cabotageref22_Rounds_4 X)) [t1, t3, t4, t6, t7, t10_23] h24)
      (sh X c_cabotageref22_Rounds_3 (K_cabotageref22_Rounds_3 X) (setL [p1, p3, p4, p6] [t1, t3, t4, t6]) h4) := by kernel_rfl
theorem l_cabotageref22_Rounds_9 (F : FuncId → Option CFunc) (t1 t3 t4 t6 t7 t10 : Value) (h : H) {r : Out} : let X := rI F; sh X c_cabotageref22_Rounds_9 (K_cabotageref22_Rounds_9 X) (setL [p1, p3, p4, p6, p7, p10] [t1, t3, t4, t6, t7, t10]) h = some r → lp X [p1, p3, p4, p6, p7, p10] c_cabotageref22_Rounds_9 (kBlk 8 (K_cabotageref22_Rounds_4 X)) [t1, t3, t4, t6, t7, t10] h = some r := fun hv => lp_step (by decide) hv
theorem s_cabotageref22_Rounds_4 (X : Rn) (t1 t3 t4 t6 t7 : Value) (h : H) : sh X c_cabotageref22_Rounds_4 (K_cabotageref22_Rounds_4 X) (setL [p1, p3, p4, p6, p7] [t1, t3, t4, t6, t7]) h =
    k2 (some (t7, h)) fun t71 h1 =>
    k2 (bltV h1 .len [t71]) fun t72 h2 =>
    k2 (vBin .eql .other t72 (.int .i64 0) h2) fun t73 h3 =>
    br t73
      (k2 (some (t4, h3)) fun t74 h4 =>
    k2 (some (t74, h4)) fun t2 h5 =>
    some (.val (tupleOf [t2]) h5))
      (k2 (some ((.int .i64 0), h3)) fun t10 h6 =>
    lp X [p1, p3, p4, p6, p7, p10] c_cabotageref22_Rounds_9 (kBlk 8 (K_cabotageref22_Rounds_4 X)) [t1, t3, t4, t6, t7, t10] h6) := by kernel_rfl
theorem s_cabotageref22_Rounds_6 (X : Rn) (t1 t3 t4 t6 t7 t8 : Value) (h : H) : sh X c_cabotageref22_Rounds_6 (K_cabotageref22_Rounds_6 X) (setL [p1, p3, p4, p6, p7, p8] [t1, t3, t4, t6, t7, t8]) h =
    k2 (some (t8, h)) fun t35 h1 =>
    k2 (vBin .add .other t35 (.int .i64 1) h1) fun t36 h2 =>
    k2 (some (t36, h2)) fun t8_3 h4 =>
    lp X [p1, p3, p4, p6, p7, p8] c_cabotageref22_Rounds_5 (kBlk 4 (kSeq X c_cabotageref22_Rounds_4 [p1, p3, p4, p6, p7] (K_cabotageref22_Rounds_4 X))) [t1, t3, t4, t6, t7, t8_3] h4 := by kernel_rfl
theorem s_cabotageref22_Rounds_8 (X : Rn) (t1 t3 t4 t6 t7 t8 t9 : Value) (h : H) : sh X c_cabotageref22_Rounds_8 (K_cabotageref22_Rounds_8 X) (setL [p1, p3, p4, p6, p7, p8, p9] [t1, t3, t4, t6, t7, t8, t9]) h =
    k2 (some (t9, h)) fun t41 h1 =>
    k2 (vBin .add .other t41 (.int .i64 1) h1) fun t42 h2 =>
    k2 (some (t42, h2)) fun t9_3 h4 =>
    lp X [p1, p3, p4, p6, p7, p8, p9] c_cabotageref22_Rounds_7 (kBlk 6 (kBlk 5 (kSeq X c_cabotageref22_Rounds_6 [p1, p3, p4, p6, p7, p8] (K_cabotageref22_Rounds_6 X)))) [t1, t3, t4, t6, t7, t8, t9_3] h4 := by kernel_rfl
theorem s_cabotageref22_Rounds_7 (X : Rn) (t1 t3 t4 t6 t7 t8 t9 : Value) (h : H) : sh X c_cabotageref22_Rounds_7 (K_cabotageref22_Rounds_7 X) (setL [p1, p3, p4, p6, p7, p8, p9] [t1, t3, t4, t6, t7, t8, t9]) h =
    k2 (some (t9, h)) fun t37 h1 =>
    k2 (vField 0 t1 h1) fun t38 h2 =>
    k2 (vLoad1 t38 h2) fun t39 h3 =>
    k2 (vBin .lss .other t37 t39 h3) fun t40 h4 =>
    br t40
      (k2 (some (t4, h4)) fun t43 h5 =>
    k2 (some (t8, h5)) fun t44 h6 =>
    k2 (vIndex 1 t43 t44 h6) fun t45 h7 =>
    k2 (vLoad1 t45 h7) fun t46 h8 =>
    k2 (some (t9, h8)) fun t47 h9 =>
    k2 (vIndex 1 t46 t47 h9) fun t48 h10 =>
    k2 (vLoad1 t48 h10) fun t49 h11 =>
    k2 (vBin .eql .other t49 (.int .i64 0) h11) fun t50 h12 =>
    k2 (some (t50, h12)) fun t51 h13 =>
    k2 (gd t51 true h13 (some (t3, h13))) fun t52 h14 =>
    k2 (gd t51 true h14 (some (t4, h14))) fun t53 h15 =>
    k2 (gd t51 true h15 (some (t8, h15))) fun t54 h16 =>
    k2 (gd t51 true h16 (some (t9, h16))) fun t55 h17 =>
    k2 (gd t51 true h17 (X.call (.func (.func n_cabotageref22_split) #[] #[]) [t52, t53, t54, t55] h17)) fun t56 h18 =>
    k2 (gd t51 true h18 (some (t56, h18))) fun t57 h19 =>
    k2 (gd t57 false h19 (some (t3, h19))) fun t58 h20 =>
    k2 (gd t57 false h20 (some (t4, h20))) fun t59 h21 =>
    k2 (gd t57 false h21 (some (t9, h21))) fun t60 h22 =>
    k2 (gd t57 false h22 (some (t8, h22))) fun t61 h23 =>
    k2 (gd t57 false h23 (X.call (.func (.func n_cabotageref22_split) #[] #[]) [t58, t59, t60, t61] h23)) fun t62 h24 =>
    k2 (gd t51 true h24 (vPick t57 (.bool true) t62 h24)) fun t63 h25 =>
    k2 (vPick t51 t63 (.bool false) h25) fun t64 h26 =>
    br t64
      (k2 (some (t7, h26)) fun t65 h27 =>
    k2 (some (t8, h27)) fun t66 h28 =>
    k2 (some (t9, h28)) fun t67 h29 =>
    k2 ((fillL [(.int .i64 0), (.int .i64 0)] [(0, 1, t66), (1, 1, t67)]).map fun c => (Value.agg ⟨c⟩, h29)) fun t68 h30 =>
    k2 (vSlice 1 (fillL (repeatL [(.int .i64 0), (.int .i64 0)] 1) [(0 * 2, 2, t68)]) h30) fun t69 h31 =>
    k2 (bltV h31 (.append 2 16) [t65, t69]) fun t70 h32 =>
    k2 (some (t70, h32)) fun t7_33 h34 =>
    sh X c_cabotageref22_Rounds_8 (K_cabotageref22_Rounds_8 X) (setL [p1, p3, p4, p6, p7, p8, p9] [t1, t3, t4, t6, t7_33, t8, t9]) h34)
      (sh X c_cabotageref22_Rounds_8 (K_cabotageref22_Rounds_8 X) (setL [p1, p3, p4, p6, p7, p8, p9] [t1, t3, t4, t6, t7, t8, t9]) h26))
      (sh X c_cabotageref22_Rounds_6 (K_cabotageref22_Rounds_6 X) (setL [p1, p3, p4, p6, p7, p8] [t1, t3, t4, t6, t7, t8]) h4) := by kernel_rfl
theorem l_cabotageref22_Rounds_7 (F : FuncId → Option CFunc) (t1 t3 t4 t6 t7 t8 t9 : Value) (h : H) {r : Out} : let X := rI F; sh X c_cabotageref22_Rounds_7 (K_cabotageref22_Rounds_7 X) (setL [p1, p3, p4, p6, p7, p8, p9] [t1, t3, t4, t6, t7, t8, t9]) h = some r → lp X [p1, p3, p4, p6, p7, p8, p9] c_cabotageref22_Rounds_7 (kBlk 6 (kBlk 5 (kSeq X c_cabotageref22_Rounds_6 [p1, p3, p4, p6, p7, p8] (K_cabotageref22_Rounds_6 X)))) [t1, t3, t4, t6, t7, t8, t9] h = some r := fun hv => lp_step (by decide) hv
theorem s_cabotageref22_Rounds_5 (X : Rn) (t1 t3 t4 t6 t7 t8 : Value) (h : H) : sh X c_cabotageref22_Rounds_5 (K_cabotageref22_Rounds_5 X) (setL [p1, p3, p4, p6, p7, p8] [t1, t3, t4, t6, t7, t8]) h =
    k2 (some (t8, h)) fun t31 h1 =>
    k2 (vField 0 t1 h1) fun t32 h2 =>
    k2 (vLoad1 t32 h2) fun t33 h3 =>
    k2 (vBin .lss .other t31 t33 h3) fun t34 h4 =>
    br t34
      (k2 (some ((.int .i64 0), h4)) fun t9 h5 =>
    lp X [p1, p3, p4, p6, p7, p8, p9] c_cabotageref22_Rounds_7 (kBlk 6 (kBlk 5 (kSeq X c_cabotageref22_Rounds_6 [p1, p3, p4, p6, p7, p8] (K_cabotageref22_Rounds_6 X)))) [t1, t3, t4, t6, t7, t8, t9] h5)
      (sh X c_cabotageref22_Rounds_4 (K_cabotageref22_Rounds_4 X) (setL [p1, p3, p4, p6, p7] [t1, t3, t4, t6, t7]) h4) := by kernel_rfl
theorem l_cabotageref22_Rounds_5 (F : FuncId → Option CFunc) (t1 t3 t4 t6 t7 t8 : Value) (h : H) {r : Out} : let X := rI F; sh X c_cabotageref22_Rounds_5 (K_cabotageref22_Rounds_5 X) (setL [p1, p3, p4, p6, p7, p8] [t1, t3, t4, t6, t7, t8]) h = some r → lp X [p1, p3, p4, p6, p7, p8] c_cabotageref22_Rounds_5 (kBlk 4 (kSeq X c_cabotageref22_Rounds_4 [p1, p3, p4, p6, p7] (K_cabotageref22_Rounds_4 X))) [t1, t3, t4, t6, t7, t8] h = some r := fun hv => lp_step (by decide) hv
theorem s_cabotageref22_Rounds_2 (X : Rn) (t1 t3 t4 t6 : Value) (h : H) : sh X c_cabotageref22_Rounds_2 (K_cabotageref22_Rounds_2 X) (setL [p1, p3, p4, p6] [t1, t3, t4, t6]) h =
    k2 (some ((.slice none 0 0), h)) fun t7 h1 =>
    k2 (some ((.int .i64 0), h1)) fun t8 h2 =>
    lp X [p1, p3, p4, p6, p7, p8] c_cabotageref22_Rounds_5 (kBlk 4 (kSeq X c_cabotageref22_Rounds_4 [p1, p3, p4, p6, p7] (K_cabotageref22_Rounds_4 X))) [t1, t3, t4, t6, t7, t8] h2 := by kernel_rfl
theorem l_cabotageref22_Rounds_2 (F : FuncId → Option CFunc) (t1 t3 t4 t6 : Value) (h : H) {r : Out} : let X := rI F; sh X c_cabotageref22_Rounds_2 (K_cabotageref22_Rounds_2 X) (setL [p1, p3, p4, p6] [t1, t3, t4, t6]) h = some r → lp X [p1, p3, p4, p6] c_cabotageref22_Rounds_2 (kBlk 2 (K_cabotageref22_Rounds_0 X)) [t1, t3, t4, t6] h = some r := fun hv => lp_step (by decide) hv
theorem s_cabotageref22_Rounds_0 (X : Rn) (t1 t3 t4 : Value) (h : H) : sh X c_cabotageref22_Rounds_0 (K_cabotageref22_Rounds_0 X) (setL [p1, p3, p4] [t1, t3, t4]) h =
    k2 (some ((.int .i64 1), h)) fun t6 h1 =>
    lp X [p1, p3, p4, p6] c_cabotageref22_Rounds_2 (kBlk 2 (K_cabotageref22_Rounds_0 X)) [t1, t3, t4, t6] h1 := by kernel_rfl
theorem s_cabotageref22_Rounds_1 (X : Rn) (t1 t3 t4 t5 : Value) (h : H) : sh X c_cabotageref22_Rounds_1 (K_cabotageref22_Rounds_1 X) (setL [p1, p3, p4, p5] [t1, t3, t4, t5]) h =
    k2 (some (t5, h)) fun t11 h1 =>
    k2 (vField 0 t1 h1) fun t12 h2 =>
    k2 (vLoad1 t12 h2) fun t13 h3 =>
    k2 (vBin .lss .other t11 t13 h3) fun t14 h4 =>
    br t14
      (k2 (some (t3, h4)) fun t17 h5 =>
    k2 (vLoadN 3 t1 h5) fun t18 h6 =>
    k2 (some (t5, h6)) fun t19 h7 =>
    k2 (X.call (.func (.func n_cabotageref22_steps) #[] #[]) [t18, t19] h7) fun t20 h8 =>
    k2 (vSlice 1 (fillL (repeatL [(.slice none 0 0)] 1) [(0 * 1, 1, t20)]) h8) fun t21 h9 =>
    k2 (bltV h9 (.append 1 24) [t17, t21]) fun t22 h10 =>
    k2 (some (t22, h10)) fun t3_11 h12 =>
    k2 (some (t4, h12)) fun t23 h13 =>
    k2 (vField 0 t1 h13) fun t24 h14 =>
    k2 (vLoad1 t24 h14) fun t25 h15 =>
    k2 (makeSliceV 8 [(.int .i64 0)] h15 t25 t25) fun t26 h16 =>
    k2 (vSlice 1 (fillL (repeatL [(.slice none 0 0)] 1) [(0 * 1, 1, t26)]) h16) fun t27 h17 =>
    k2 (bltV h17 (.append 1 24) [t23, t27]) fun t28 h18 =>
    k2 (some (t28, h18)) fun t4_19 h20 =>
    k2 (some (t5, h20)) fun t15 h21 =>
    k2 (vBin .add .other t15 (.int .i64 1) h21) fun t16 h22 =>
    k2 (some (t16, h22)) fun t5_23 h24 =>
    lp X [p1, p3, p4, p5] c_cabotageref22_Rounds_1 (kBlk 0 (kSeq X c_cabotageref22_Rounds_0 [p1, p3, p4] (K_cabotageref22_Rounds_0 X))) [t1, t3_11, t4_19, t5_23] h24)
      (sh X c_cabotageref22_Rounds_0 (K_cabotageref22_Rounds_0 X) (setL [p1, p3, p4] [t1, t3, t4]) h4) := by kernel_rfl
theorem l_cabotageref22_Rounds_1 (F : FuncId → Option CFunc) (t1 t3 t4 t5 : Value) (h : H) {r : Out} : let X := rI F; sh X c_cabotageref22_Rounds_1 (K_cabotageref22_Rounds_1 X) (setL [p1, p3, p4, p5] [t1, t3, t4, t5]) h = some r → lp X [p1, p3, p4, p5] c_cabotageref22_Rounds_1 (kBlk 0 (kSeq X c_cabotageref22_Rounds_0 [p1, p3, p4] (K_cabotageref22_Rounds_0 X))) [t1, t3, t4, t5] h = some r := fun hv => lp_step (by decide) hv
theorem s_cabotageref22_Rounds (X : Rn) (t0 : Value) (h : H) : shFunc X 1 f_cabotageref22_Rounds [t0] h =
    k2 (some (newPtr h (cellsL t0))) fun t1 h1 =>
    k2 (some ((.slice none 0 0), h1)) fun t2 h2 =>
    k2 (some ((.slice none 0 0), h2)) fun t3 h3 =>
    k2 (some ((.slice none 0 0), h3)) fun t4 h4 =>
    k2 (some ((.int .i64 0), h4)) fun t5 h5 =>
    lp X [p1, p3, p4, p5] c_cabotageref22_Rounds_1 (kBlk 0 (kSeq X c_cabotageref22_Rounds_0 [p1, p3, p4] (K_cabotageref22_Rounds_0 X))) [t1, t3, t4, t5] h5 := by kernel_rfl
theorem s_cabotageref22_steps_0 (X : Rn) (t5 : Value) (h : H) : sh X c_cabotageref22_steps_0 (K_cabotageref22_steps_0 X) (setL [p5] [t5]) h =
    k2 (some (t5, h)) fun t30 h1 =>
    k2 (some (t30, h1)) fun t4 h2 =>
    some (.val (tupleOf [t4]) h2) := by kernel_rfl
theorem s_cabotageref22_steps_2 (X : Rn) (t1 t2 t5 t6 : Value) (h : H) : sh X c_cabotageref22_steps_2 (K_cabotageref22_steps_2 X) (setL [p1, p2, p5, p6] [t1, t2, t5, t6]) h =
    k2 (some (t6, h)) fun t12 h1 =>
    k2 (vBin .add .other t12 (.int .i64 1) h1) fun t13 h2 =>
    k2 (some (t13, h2)) fun t6_3 h4 =>
    lp X [p1, p2, p5, p6] c_cabotageref22_steps_1 (kBlk 0 (kSeq X c_cabotageref22_steps_0 [p5] (K_cabotageref22_steps_0 X))) [t1, t2, t5, t6_3] h4 := by kernel_rfl
theorem s_cabotageref22_steps_1 (X : Rn) (t1 t2 t5 t6 : Value) (h : H) : sh X c_cabotageref22_steps_1 (K_cabotageref22_steps_1 X) (setL [p1, p2, p5, p6] [t1, t2, t5, t6]) h =
    k2 (some (t6, h)) fun t7 h1 =>
    k2 (vField 2 t2 h1) fun t8 h2 =>
    k2 (vLoad1 t8 h2) fun t9 h3 =>
    k2 (bltV h3 .len [t9]) fun t10 h4 =>
    k2 (vBin .lss .other t7 t10 h4) fun t11 h5 =>
    br t11
      (k2 (vField 2 t2 h5) fun t14 h6 =>
    k2 (vLoad1 t14 h6) fun t15 h7 =>
    k2 (some (t6, h7)) fun t16 h8 =>
    k2 (vIndex 3 t15 t16 h8) fun t17 h9 =>
    k2 (vField 0 t17 h9) fun t18 h10 =>
    k2 (vLoad1 t18 h10) fun t19 h11 =>
    k2 (some (t1, h11)) fun t20 h12 =>
    k2 (vBin .eql .other t19 t20 h12) fun t21 h13 =>
    br t21
      (k2 (some (t5, h13)) fun t22 h14 =>
    k2 (vField 2 t2 h14) fun t23 h15 =>
    k2 (vLoad1 t23 h15) fun t24 h16 =>
    k2 (some (t6, h16)) fun t25 h17 =>
    k2 (vIndex 3 t24 t25 h17) fun t26 h18 =>
    k2 (vLoadN 3 t26 h18) fun t27 h19 =>
    k2 (vSlice 1 (fillL (repeatL [(.int .i64 0), (.int .i64 0), (.int .i64 0)] 1) [(0 * 3, 3, t27)]) h19) fun t28 h20 =>
    k2 (bltV h20 (.append 3 24) [t22, t28]) fun t29 h21 =>
    k2 (some (t29, h21)) fun t5_22 h23 =>
    sh X c_cabotageref22_steps_2 (K_cabotageref22_steps_2 X) (setL [p1, p2, p5, p6] [t1, t2, t5_22, t6]) h23)
      (sh X c_cabotageref22_steps_2 (K_cabotageref22_steps_2 X) (setL [p1, p2, p5, p6] [t1, t2, t5, t6]) h13))
      (sh X c_cabotageref22_steps_0 (K_cabotageref22_steps_0 X) (setL [p5] [t5]) h5) := by kernel_rfl
theorem l_cabotageref22_steps_1 (F : FuncId → Option CFunc) (t1 t2 t5 t6 : Value) (h : H) {r : Out} : let X := rI F; sh X c_cabotageref22_steps_1 (K_cabotageref22_steps_1 X) (setL [p1, p2, p5, p6] [t1, t2, t5, t6]) h = some r → lp X [p1, p2, p5, p6] c_cabotageref22_steps_1 (kBlk 0 (kSeq X c_cabotageref22_steps_0 [p5] (K_cabotageref22_steps_0 X))) [t1, t2, t5, t6] h = some r := fun hv => lp_step (by decide) hv
theorem s_cabotageref22_steps (X : Rn) (t0 t1 : Value) (h : H) : shFunc X 2 f_cabotageref22_steps [t0, t1] h =
    k2 (some (newPtr h (cellsL t0))) fun t2 h1 =>
    k2 (some ((.slice none 0 0), h1)) fun t4 h2 =>
    k2 (some ((.slice none 0 0), h2)) fun t5 h3 =>
    k2 (some ((.int .i64 0), h3)) fun t6 h4 =>
    lp X [p1, p2, p5, p6] c_cabotageref22_steps_1 (kBlk 0 (kSeq X c_cabotageref22_steps_0 [p5] (K_cabotageref22_steps_0 X))) [t1, t2, t5, t6] h4 := by kernel_rfl
theorem s_Pcabotageref22_teller_tells_0 (X : Rn) (t0 t1 t2 t6 : Value) (h : H) : sh X c_Pcabotageref22_teller_tells_0 (K_Pcabotageref22_teller_tells_0 X) (setL [p0, p1, p2, p6] [t0, t1, t2, t6]) h =
    k2 (some (t0, h)) fun t124 h1 =>
    k2 (vNil t124 h1) fun t125 h2 =>
    k2 (vField 2 t125 h2) fun t126 h3 =>
    k2 (vLoad1 t126 h3) fun t127 h4 =>
    k2 (vBin .sub .other t127 (.int .i64 1) h4) fun t128 h5 =>
    k2 (vNil t124 h5) fun t129 h6 =>
    k2 (vField 2 t129 h6) fun t130 h7 =>
    k2 (vStore 1 t130 t128 h7) fun _ h8 =>
    k2 (some (t0, h8)) fun t131 h9 =>
    k2 (some (t2, h9)) fun t132 h10 =>
    k2 (some (t1, h10)) fun t133 h11 =>
    k2 (X.call (.func (.func n_Pcabotageref22_teller_tells) #[] #[]) [t131, t132, t133] h11) fun t134 h12 =>
    k2 (vSlice 1 (fillL (repeatL [(.int .i64 0), (.int .i64 0), (.slice none 0 0)] 1) [(0 * 3, 3, t134)]) h12) fun t135 h13 =>
    k2 ((fillL [(.int .i64 0), (.int .i64 0), (.slice none 0 0)] [(0, 1, (.int .i64 2)), (2, 1, t135)]).map fun c => (Value.agg ⟨c⟩, h13)) fun t136 h14 =>
    k2 (vStore 3 t6 t136 h14) fun _ h15 =>
    (vRes (some 3) t6 h15).bind fun r0 => some (.val (tupleOf [r0]) h15) := by kernel_rfl
theorem s_Pcabotageref22_teller_tells_2 (X : Rn) (t0 t1 t2 t6 t7 t8 : Value) (h : H) : sh X c_Pcabotageref22_teller_tells_2 (K_Pcabotageref22_teller_tells_2 X) (setL [p0, p1, p2, p6, p7, p8] [t0, t1, t2, t6, t7, t8]) h =
    k2 (some (t8, h)) fun t38 h1 =>
    k2 (vBin .add .other t38 (.int .i64 1) h1) fun t39 h2 =>
    k2 (some (t39, h2)) fun t8_3 h4 =>
    lp X [p0, p1, p2, p6, p7, p8] c_Pcabotageref22_teller_tells_1 (kBlk 0 (kSeq X c_Pcabotageref22_teller_tells_0 [p0, p1, p2, p6] (K_Pcabotageref22_teller_tells_0 X))) [t0, t1, t2, t6, t7, t8_3] h4 := by kernel_rfl
theorem s_Pcabotageref22_teller_tells_3 (X : Rn) (t6 t9 t10 : Value) (h : H) : sh X c_Pcabotageref22_teller_tells_3 (K_Pcabotageref22_teller_tells_3 X) (setL [p6, p9, p10] [t6, t9, t10]) h =
    k2 (vField 2 t9 h) fun t119 h1 =>
    k2 (vLoad1 t119 h1) fun t120 h2 =>
    k2 (vLoadN 3 t10 h2) fun t121 h3 =>
    k2 (vSlice 1 (fillL (repeatL [(.int .i64 0), (.int .i64 0), (.slice none 0 0)] 1) [(0 * 3, 3, t121)]) h3) fun t122 h4 =>
    k2 ((fillL [(.int .i64 0), (.int .i64 0), (.slice none 0 0)] [(0, 1, (.int .i64 4)), (1, 1, t120), (2, 1, t122)]).map fun c => (Value.agg ⟨c⟩, h4)) fun t123 h5 =>
    k2 (vStore 3 t6 t123 h5) fun _ h6 =>
    (vRes (some 3) t6 h6).bind fun r0 => some (.val (tupleOf [r0]) h6) := by kernel_rfl
theorem s_Pcabotageref22_teller_tells_5 (X : Rn) (t0 t2 t6 t9 t10 t11 : Value) (h : H) : sh X c_Pcabotageref22_teller_tells_5 (K_Pcabotageref22_teller_tells_5 X) (setL [p0, p2, p6, p9, p10, p11] [t0, t2, t6, t9, t10, t11]) h =
    k2 (some (t11, h)) fun t83 h1 =>
    k2 (vBin .add .other t83 (.int .i64 1) h1) fun t84 h2 =>
    k2 (some (t84, h2)) fun t11_3 h4 =>
    lp X [p0, p2, p6, p9, p10, p11] c_Pcabotageref22_teller_tells_4 (kBlk 2 (kSeq X c_Pcabotageref22_teller_tells_3 [p6, p9, p10] (K_Pcabotageref22_teller_tells_3 X))) [t0, t2, t6, t9, t10, t11_3] h4 := by kernel_rfl
theorem s_Pcabotageref22_teller_tells_4 (X : Rn) (t0 t2 t6 t9 t10 t11 : Value) (h : H) : sh X c_Pcabotageref22_teller_tells_4 (K_Pcabotageref22_teller_tells_4 X) (setL [p0, p2, p6, p9, p10, p11] [t0, t2, t6, t9, t10, t11]) h =
    k2 (some (t11, h)) fun t73 h1 =>
    k2 (some (t0, h1)) fun t74 h2 =>
    k2 (vNil t74 h2) fun t75 h3 =>
    k2 (vField 0 t75 h3) fun t76 h4 =>
    k2 (vLoad1 t76 h4) fun t77 h5 =>
    k2 (some (t2, h5)) fun t78 h6 =>
    k2 (vIndex 1 t77 t78 h6) fun t79 h7 =>
    k2 (vLoad1 t79 h7) fun t80 h8 =>
    k2 (bltV h8 .len [t80]) fun t81 h9 =>
    k2 (vBin .lss .other t73 t81 h9) fun t82 h10 =>
    br t82
      (k2 (some (t0, h10)) fun t85 h11 =>
    k2 (vNil t85 h11) fun t86 h12 =>
    k2 (vField 0 t86 h12) fun t87 h13 =>
    k2 (rdF (fun b => vLoad1 t87 b) 0 h13 [(0, h10)]) fun t88 h14 =>
    k2 (some (t2, h14)) fun t89 h15 =>
    k2 (vIndex 1 t88 t89 h15) fun t90 h16 =>
    k2 (rdF (fun b => vLoad1 t90 b) 0 h16 [(0, h10)]) fun t91 h17 =>
    k2 (some (t11, h17)) fun t92 h18 =>
    k2 (vIndex 3 t91 t92 h18) fun t93 h19 =>
    k2 (vField 2 t93 h19) fun t94 h20 =>
    k2 (rdF (fun b => vLoad1 t94 b) 0 h20 [(0, h10)]) fun t95 h21 =>
    k2 (vField 2 t9 h21) fun t96 h22 =>
    k2 (rdF (fun b => vLoad1 t96 b) 0 h22 [(0, h10)]) fun t97 h23 =>
    k2 (vBin .eql .other t95 t97 h23) fun t98 h24 =>
    br t98
      (k2 (some (t0, h24)) fun t101 h25 =>
    k2 (vField 1 t9 h25) fun t102 h26 =>
    k2 (rdF (fun b => vLoad1 t102 b) 0 h26 [(0, h24)]) fun t103 h27 =>
    k2 (some (t0, h27)) fun t104 h28 =>
    k2 (vNil t104 h28) fun t105 h29 =>
    k2 (vField 0 t105 h29) fun t106 h30 =>
    k2 (rdF (fun b => vLoad1 t106 b) 0 h30 [(0, h24)]) fun t107 h31 =>
    k2 (some (t2, h31)) fun t108 h32 =>
    k2 (vIndex 1 t107 t108 h32) fun t109 h33 =>
    k2 (rdF (fun b => vLoad1 t109 b) 0 h33 [(0, h24)]) fun t110 h34 =>
    k2 (some (t11, h34)) fun t111 h35 =>
    k2 (vIndex 3 t110 t111 h35) fun t112 h36 =>
    k2 (vField 1 t112 h36) fun t113 h37 =>
    k2 (rdF (fun b => vLoad1 t113 b) 0 h37 [(0, h24)]) fun t114 h38 =>
    k2 (X.call (.func (.func n_Pcabotageref22_teller_tells) #[] #[]) [t101, t103, t114] h38) fun t115 h39 =>
    k2 (vField 2 t10 h39) fun t99 h40 =>
    k2 (rdF (fun b => vLoad1 t99 b) 0 h40 [(1, h39), (0, h24)]) fun t100 h41 =>
    k2 (vSlice 1 (fillL (repeatL [(.int .i64 0), (.int .i64 0), (.slice none 0 0)] 1) [(0 * 3, 3, t115)]) h41) fun t116 h42 =>
    k2 (bltV h42 (.append 3 40) [t100, t116]) fun t117 h43 =>
    k2 (vField 2 t10 h43) fun t118 h44 =>
    k2 (vStore 1 t118 t117 h44) fun _ h45 =>
    sh X c_Pcabotageref22_teller_tells_5 (K_Pcabotageref22_teller_tells_5 X) (setL [p0, p2, p6, p9, p10, p11] [t0, t2, t6, t9, t10, t11]) h45)
      (sh X c_Pcabotageref22_teller_tells_5 (K_Pcabotageref22_teller_tells_5 X) (setL [p0, p2, p6, p9, p10, p11] [t0, t2, t6, t9, t10, t11]) h24))
      (sh X c_Pcabotageref22_teller_tells_3 (K_Pcabotageref22_teller_tells_3 X) (setL [p6, p9, p10] [t6, t9, t10]) h10) := by kernel_rfl
theorem l_Pcabotageref22_teller_tells_4 (F : FuncId → Option CFunc) (t0 t2 t6 t9 t10 t11 : Value) (h : H) {r : Out} : let X := rI F; sh X c_Pcabotageref22_teller_tells_4 (K_Pcabotageref22_teller_tells_4 X) (setL [p0, p2, p6, p9, p10, p11] [t0, t2, t6, t9, t10, t11]) h = some r → lp X [p0, p2, p6, p9, p10, p11] c_Pcabotageref22_teller_tells_4 (kBlk 2 (kSeq X c_Pcabotageref22_teller_tells_3 [p6, p9, p10] (K_Pcabotageref22_teller_tells_3 X))) [t0, t2, t6, t9, t10, t11] h = some r := fun hv => lp_step (by decide) hv
theorem s_Pcabotageref22_teller_tells_1 (X : Rn) (t0 t1 t2 t6 t7 t8 : Value) (h : H) : sh X c_Pcabotageref22_teller_tells_1 (K_Pcabotageref22_teller_tells_1 X) (setL [p0, p1, p2, p6, p7, p8] [t0, t1, t2, t6, t7, t8]) h =
    k2 (some (t8, h)) fun t28 h1 =>
    k2 (some (t0, h1)) fun t29 h2 =>
    k2 (vNil t29 h2) fun t30 h3 =>
    k2 (vField 0 t30 h3) fun t31 h4 =>
    k2 (vLoad1 t31 h4) fun t32 h5 =>
    k2 (some (t1, h5)) fun t33 h6 =>
    k2 (vIndex 1 t32 t33 h6) fun t34 h7 =>
    k2 (vLoad1 t34 h7) fun t35 h8 =>
    k2 (bltV h8 .len [t35]) fun t36 h9 =>
    k2 (vBin .lss .other t28 t36 h9) fun t37 h10 =>
    br t37
      (k2 (some (t0, h10)) fun t40 h11 =>
    k2 (vNil t40 h11) fun t41 h12 =>
    k2 (vField 0 t41 h12) fun t42 h13 =>
    k2 (vLoad1 t42 h13) fun t43 h14 =>
    k2 (some (t1, h14)) fun t44 h15 =>
    k2 (vIndex 1 t43 t44 h15) fun t45 h16 =>
    k2 (vLoad1 t45 h16) fun t46 h17 =>
    k2 (some (t8, h17)) fun t47 h18 =>
    k2 (vIndex 3 t46 t47 h18) fun t48 h19 =>
    k2 (vLoadN 3 t48 h19) fun t49 h20 =>
    k2 (some (newPtr h20 [(.int .i64 0), (.int .i64 0), (.int .i64 0)])) fun t9 h21 =>
    k2 (vStore 3 t9 t49 h21) fun _ h22 =>
    k2 (some (t0, h22)) fun t50 h23 =>
    k2 (vNil t50 h23) fun t51 h24 =>
    k2 (vField 0 t51 h24) fun t52 h25 =>
    k2 (rdF (fun b => vLoad1 t52 b) 0 h25 [(0, h22)]) fun t53 h26 =>
    k2 (some (t0, h26)) fun t54 h27 =>
    k2 (vNil t54 h27) fun t55 h28 =>
    k2 (vField 1 t55 h28) fun t56 h29 =>
    k2 (rdF (fun b => vLoad1 t56 b) 0 h29 [(0, h22)]) fun t57 h30 =>
    k2 (rdF (fun b => vLoadN 3 t9 b) 0 h30 [(0, h22)]) fun t58 h31 =>
    k2 (some (t2, h31)) fun t59 h32 =>
    k2 (some (t7, h32)) fun t60 h33 =>
    k2 (vBin .sub .other t60 (.int .i64 1) h33) fun t61 h34 =>
    k2 (X.call (.func (.func n_cabotageref22_answerless) #[] #[]) [t53, t57, t58, t59, t61] h34) fun t62 h35 =>
    k2 (vUn .not t62 h35) fun t63 h36 =>
    br t63
      (sh X c_Pcabotageref22_teller_tells_2 (K_Pcabotageref22_teller_tells_2 X) (setL [p0, p1, p2, p6, p7, p8] [t0, t1, t2, t6, t7, t8]) h36)
      (k2 (some (t0, h36)) fun t64 h37 =>
    k2 (some (t0, h37)) fun t65 h38 =>
    k2 (vNil t65 h38) fun t66 h39 =>
    k2 (vField 2 t66 h39) fun t67 h40 =>
    k2 (vLoad1 t67 h40) fun t68 h41 =>
    k2 (vBin .sub .other t68 (.int .i64 2) h41) fun t69 h42 =>
    k2 (vNil t64 h42) fun t70 h43 =>
    k2 (vField 2 t70 h43) fun t71 h44 =>
    k2 (vStore 1 t71 t69 h44) fun _ h45 =>
    k2 ((fillL [(.int .i64 0), (.int .i64 0), (.slice none 0 0)] [(0, 1, (.int .i64 3))]).map fun c => (Value.agg ⟨c⟩, h45)) fun t72 h46 =>
    k2 (some (newPtr h46 [(.int .i64 0), (.int .i64 0), (.slice none 0 0)])) fun t10 h47 =>
    k2 (vStore 3 t10 t72 h47) fun _ h48 =>
    k2 (some ((.int .i64 0), h48)) fun t11 h49 =>
    lp X [p0, p2, p6, p9, p10, p11] c_Pcabotageref22_teller_tells_4 (kBlk 2 (kSeq X c_Pcabotageref22_teller_tells_3 [p6, p9, p10] (K_Pcabotageref22_teller_tells_3 X))) [t0, t2, t6, t9, t10, t11] h49))
      (sh X c_Pcabotageref22_teller_tells_0 (K_Pcabotageref22_teller_tells_0 X) (setL [p0, p1, p2, p6] [t0, t1, t2, t6]) h10) := by kernel_rfl
theorem l_Pcabotageref22_teller_tells_1 (F : FuncId → Option CFunc) (t0 t1 t2 t6 t7 t8 : Value) (h : H) {r : Out} : let X := rI F; sh X c_Pcabotageref22_teller_tells_1 (K_Pcabotageref22_teller_tells_1 X) (setL [p0, p1, p2, p6, p7, p8] [t0, t1, t2, t6, t7, t8]) h = some r → lp X [p0, p1, p2, p6, p7, p8] c_Pcabotageref22_teller_tells_1 (kBlk 0 (kSeq X c_Pcabotageref22_teller_tells_0 [p0, p1, p2, p6] (K_Pcabotageref22_teller_tells_0 X))) [t0, t1, t2, t6, t7, t8] h = some r := fun hv => lp_step (by decide) hv
theorem s_Pcabotageref22_teller_tells (X : Rn) (t0 t1 t2 : Value) (h : H) : shFunc X 3 f_Pcabotageref22_teller_tells [t0, t1, t2] h =
    k2 (some (newPtr h [(.int .i64 0), (.int .i64 0), (.slice none 0 0)])) fun t6 h1 =>
    k2 (some (t0, h1)) fun t12 h2 =>
    k2 (vNil t12 h2) fun t13 h3 =>
    k2 (vField 2 t13 h3) fun t14 h4 =>
    k2 (vLoad1 t14 h4) fun t15 h5 =>
    k2 (vBin .lss .other t15 (.int .i64 0) h5) fun t16 h6 =>
    br t16
      (k2 ((fillL [(.int .i64 0), (.int .i64 0), (.slice none 0 0)] []).map fun c => (Value.agg ⟨c⟩, h6)) fun t17 h7 =>
    k2 (vStore 3 t6 t17 h7) fun _ h8 =>
    (vRes (some 3) t6 h8).bind fun r0 => some (.val (tupleOf [r0]) h8))
      (k2 (some (t0, h6)) fun t18 h9 =>
    k2 (vNil t18 h9) fun t19 h10 =>
    k2 (vField 1 t19 h10) fun t20 h11 =>
    k2 (vLoad1 t20 h11) fun t21 h12 =>
    k2 (some (t1, h12)) fun t22 h13 =>
    k2 (vIndex 1 t21 t22 h13) fun t23 h14 =>
    k2 (vLoad1 t23 h14) fun t24 h15 =>
    k2 (some (t2, h15)) fun t25 h16 =>
    k2 (vIndex 1 t24 t25 h16) fun t26 h17 =>
    k2 (vLoad1 t26 h17) fun t27 h18 =>
    k2 (some (t27, h18)) fun t7 h19 =>
    k2 (some ((.int .i64 0), h19)) fun t8 h20 =>
    lp X [p0, p1, p2, p6, p7, p8] c_Pcabotageref22_teller_tells_1 (kBlk 0 (kSeq X c_Pcabotageref22_teller_tells_0 [p0, p1, p2, p6] (K_Pcabotageref22_teller_tells_0 X))) [t0, t1, t2, t6, t7, t8] h20) := by kernel_rfl
theorem s_judge_both (X : Rn) (t0 t1 : Value) (h : H) : shFunc X 2 f_judge_both [t0, t1] h =
    k2 (some (newPtr h (cellsL t0))) fun t2 h1 =>
    k2 (some (newPtr h1 (cellsL t1))) fun t3 h2 =>
    k2 (some ((.bool false), h2)) fun t4 h3 =>
    k2 (vLoadN 3 t2 h3) fun t5 h4 =>
    k2 (X.call (.func (.func n_judge_Check) #[] #[]) [t5] h4) fun t6 h5 =>
    k2 (vBin .eql .other t6 (.int .i64 0) h5) fun t7 h6 =>
    k2 (some (t7, h6)) fun t8 h7 =>
    k2 (gd t8 true h7 (vLoadN 3 t3 h7)) fun t9 h8 =>
    k2 (gd t8 true h8 (X.call (.func (.func n_judge_Check) #[] #[]) [t9] h8)) fun t10 h9 =>
    k2 (gd t8 true h9 (vBin .eql .other t10 (.int .i64 0) h9)) fun t11 h10 =>
    k2 (vPick t8 t11 (.bool false) h10) fun t12 h11 =>
    k2 (some (t12, h11)) fun t13 h12 =>
    k2 (gd t13 true h12 (vField 1 t2 h12)) fun t14 h13 =>
    k2 (gd t13 true h13 (vLoad1 t14 h13)) fun t15 h14 =>
    k2 (gd t13 true h14 (vField 1 t3 h14)) fun t16 h15 =>
    k2 (gd t13 true h15 (vLoad1 t16 h15)) fun t17 h16 =>
    k2 (gd t13 true h16 (vBin .eql .other t15 t17 h16)) fun t18 h17 =>
    k2 (vPick t13 t18 (.bool false) h17) fun t19 h18 =>
    k2 (some (t19, h18)) fun t4 h19 =>
    some (.val (tupleOf [t4]) h19) := by kernel_rfl
theorem s_judge_alike_0 (X : Rn) (t2 t5 : Value) (h : H) : sh X c_judge_alike_0 (K_judge_alike_0 X) (setL [p2, p5] [t2, t5]) h =
    k2 (rdF (fun b => vLoadN 3 t5 b) 0 h [(0, h)]) fun t48 h1 =>
    k2 (X.call (.func (.func n_judge_apart) #[] #[]) [t48] h1) fun t49 h2 =>
    k2 (vField 0 t2 h2) fun t50 h3 =>
    k2 (rdF (fun b => vLoad1 t50 b) 0 h3 [(1, h2), (0, h)]) fun t51 h4 =>
    k2 ((fillL [(.int .i64 0), (.int .i64 0)] [(0, 1, (.int .i64 0)), (1, 1, t51)]).map fun c => (Value.agg ⟨c⟩, h4)) fun t52 h5 =>
    k2 (rdF (fun b => vLookup (.leaves [0, 1]) (.int .i64 0) true t49 t52 b) 1 h5 [(1, h2), (0, h)]) fun t53 h6 =>
    k2 (some (t53, h6)) fun t47 h7 =>
    k2 (vExtract 0 t47 h7) fun t54 h8 =>
    k2 (vExtract 1 t47 h8) fun t55 h9 =>
    k2 (some (t54, h9)) fun t8 h10 =>
    k2 (some (t55, h10)) fun t9 h11 =>
    k2 (some (t9, h11)) fun t56 h12 =>
    k2 (vUn .not t56 h12) fun t57 h13 =>
    k2 (some (t57, h13)) fun t4 h14 =>
    some (.val (tupleOf [t4]) h14) := by kernel_rfl
theorem s_judge_alike_1 (X : Rn) (t2 t5 t22 t23 t24 : Value) (h : H) : sh X c_judge_alike_1 (K_judge_alike_1 X) (setL [p2, p5, p22, p23, p24] [t2, t5, t22, t23, t24]) h =
    k2 (vBin .lss .other t24 t23 h) fun t25 h1 =>
    br t25
      (k2 (vIndex 3 t22 t24 h1) fun t26 h2 =>
    k2 (vLoadN 3 t26 h2) fun t27 h3 =>
    k2 (some (newPtr h3 [(.int .i64 0), (.int .i64 0), (.int .i64 0)])) fun t7 h4 =>
    k2 (vStore 3 t7 t27 h4) fun _ h5 =>
    k2 (vField 2 t5 h5) fun t28 h6 =>
    k2 (vLoad1 t28 h6) fun t29 h7 =>
    k2 (vField 0 t7 h7) fun t30 h8 =>
    k2 (vLoad1 t30 h8) fun t31 h9 =>
    k2 (vField 0 t2 h9) fun t32 h10 =>
    k2 (vLoad1 t32 h10) fun t33 h11 =>
    k2 (vBin .add .other t31 t33 h11) fun t34 h12 =>
    k2 (vField 1 t7 h12) fun t35 h13 =>
    k2 (vLoad1 t35 h13) fun t36 h14 =>
    k2 (vField 0 t2 h14) fun t37 h15 =>
    k2 (vLoad1 t37 h15) fun t38 h16 =>
    k2 (vBin .add .other t36 t38 h16) fun t39 h17 =>
    k2 (vField 2 t7 h17) fun t40 h18 =>
    k2 (vLoad1 t40 h18) fun t41 h19 =>
    k2 ((fillL [(.int .i64 0), (.int .i64 0), (.int .i64 0)] [(0, 1, t34), (1, 1, t39), (2, 1, t41)]).map fun c => (Value.agg ⟨c⟩, h19)) fun t42 h20 =>
    k2 (vSlice 1 (fillL (repeatL [(.int .i64 0), (.int .i64 0), (.int .i64 0)] 1) [(0 * 3, 3, t42)]) h20) fun t43 h21 =>
    k2 (bltV h21 (.append 3 24) [t29, t43]) fun t44 h22 =>
    k2 (vField 2 t5 h22) fun t45 h23 =>
    k2 (vStore 1 t45 t44 h23) fun _ h24 =>
    k2 (vBin .add .other t24 (.int .i64 1) h24) fun t46 h25 =>
    k2 (some (t46, h25)) fun t24_26 h27 =>
    lp X [p2, p5, p22, p23, p24] c_judge_alike_1 (kBlk 0 (kSeq X c_judge_alike_0 [p2, p5] (K_judge_alike_0 X))) [t2, t5, t22, t23, t24_26] h27)
      (sh X c_judge_alike_0 (K_judge_alike_0 X) (setL [p2, p5] [t2, t5]) h1) := by kernel_rfl
theorem l_judge_alike_1 (F : FuncId → Option CFunc) (t2 t5 t22 t23 t24 : Value) (h : H) {r : Out} : let X := rI F; sh X c_judge_alike_1 (K_judge_alike_1 X) (setL [p2, p5, p22, p23, p24] [t2, t5, t22, t23, t24]) h = some r → lp X [p2, p5, p22, p23, p24] c_judge_alike_1 (kBlk 0 (kSeq X c_judge_alike_0 [p2, p5] (K_judge_alike_0 X))) [t2, t5, t22, t23, t24] h = some r := fun hv => lp_step (by decide) hv
theorem s_judge_alike (X : Rn) (t0 t1 : Value) (h : H) : shFunc X 2 f_judge_alike [t0, t1] h =
    k2 (some (newPtr h (cellsL t0))) fun t2 h1 =>
    k2 (some (newPtr h1 (cellsL t1))) fun t3 h2 =>
    k2 (some ((.bool false), h2)) fun t4 h3 =>
    k2 (vField 2 t2 h3) fun t17 h4 =>
    k2 (rdF (fun b => vLoad1 t17 b) 0 h4 [(0, h3)]) fun t18 h5 =>
    k2 (X.call (.func (.func n_slices_Clone_api_JudgeEdge_api_JudgeEdge_) #[] #[]) [t18] h5) fun t19 h6 =>
    k2 (vField 0 t2 h6) fun t10 h7 =>
    k2 (rdF (fun b => vLoad1 t10 b) 0 h7 [(1, h6), (0, h3)]) fun t11 h8 =>
    k2 (vField 0 t3 h8) fun t12 h9 =>
    k2 (rdF (fun b => vLoad1 t12 b) 0 h9 [(1, h6), (0, h3)]) fun t13 h10 =>
    k2 (vBin .add .other t11 t13 h10) fun t14 h11 =>
    k2 (vField 1 t2 h11) fun t15 h12 =>
    k2 (rdF (fun b => vLoad1 t15 b) 0 h12 [(1, h6), (0, h3)]) fun t16 h13 =>
    k2 ((fillL [(.int .i64 0), (.int .i64 0), (.slice none 0 0)] [(0, 1, t14), (1, 1, t16), (2, 1, t19)]).map fun c => (Value.agg ⟨c⟩, h13)) fun t20 h14 =>
    k2 (some (newPtr h14 [(.int .i64 0), (.int .i64 0), (.slice none 0 0)])) fun t5 h15 =>
    k2 (vStore 3 t5 t20 h15) fun _ h16 =>
    k2 (vField 2 t3 h16) fun t21 h17 =>
    k2 (vLoad1 t21 h17) fun t22 h18 =>
    k2 (bltV h18 .len [t22]) fun t23 h19 =>
    k2 (some ((.int .i64 0), h19)) fun t24 h20 =>
    lp X [p2, p5, p22, p23, p24] c_judge_alike_1 (kBlk 0 (kSeq X c_judge_alike_0 [p2, p5] (K_judge_alike_0 X))) [t2, t5, t22, t23, t24] h20 := by kernel_rfl
theorem s_judge_classes_0 (X : Rn) (t4 : Value) (h : H) : sh X c_judge_classes_0 (K_judge_classes_0 X) (setL [p4] [t4]) h =
    k2 (some (t4, h)) fun t50 h1 =>
    k2 (some (t50, h1)) fun t2 h2 =>
    some (.val (tupleOf [t2]) h2) := by kernel_rfl
theorem s_judge_classes_2 (X : Rn) (t3 t4 t5 t14 t15 : Value) (h : H) : sh X c_judge_classes_2 (K_judge_classes_2 X) (setL [p3, p4, p5, p14, p15] [t3, t4, t5, t14, t15]) h =
    k2 (vBin .add .other t15 (.int .i64 1) h) fun t49 h1 =>
    k2 (some (t49, h1)) fun t15_2 h3 =>
    lp X [p3, p4, p5, p14, p15] c_judge_classes_1 (kBlk 0 (kSeq X c_judge_classes_0 [p4] (K_judge_classes_0 X))) [t3, t4, t5, t14, t15_2] h3 := by kernel_rfl
theorem s_judge_classes_3 (X : Rn) (t3 t4 t5 t6 t14 t15 : Value) (h : H) : sh X c_judge_classes_3 (K_judge_classes_3 X) (setL [p3, p4, p5, p6, p14, p15] [t3, t4, t5, t6, t14, t15]) h =
    k2 (some (t4, h)) fun t40 h1 =>
    k2 (some (t5, h1)) fun t41 h2 =>
    k2 (bltV h2 .len [t41]) fun t42 h3 =>
    k2 (vSlice 1 (fillL (repeatL [(.int .i64 0)] 1) [(0 * 1, 1, t42)]) h3) fun t43 h4 =>
    k2 (bltV h4 (.append 1 8) [t40, t43]) fun t44 h5 =>
    k2 (some (t44, h5)) fun t4_6 h7 =>
    k2 (some (t5, h7)) fun t45 h8 =>
    k2 (some (t6, h8)) fun t46 h9 =>
    k2 (vSlice 1 (fillL (repeatL [(.int .i64 0)] 1) [(0 * 1, 1, t46)]) h9) fun t47 h10 =>
    k2 (bltV h10 (.append 1 8) [t45, t47]) fun t48 h11 =>
    k2 (some (t48, h11)) fun t5_12 h13 =>
    sh X c_judge_classes_2 (K_judge_classes_2 X) (setL [p3, p4, p5, p14, p15] [t3, t4_6, t5_12, t14, t15]) h13 := by kernel_rfl
theorem s_judge_classes_4 (X : Rn) (t3 t4 t5 t6 t14 t15 t18 t19 t20 : Value) (h : H) : sh X c_judge_classes_4 (K_judge_classes_4 X) (setL [p3, p4, p5, p6, p14, p15, p18, p19, p20] [t3, t4, t5, t6, t14, t15, t18, t19, t20]) h =
    k2 (vBin .lss .other t20 t19 h) fun t21 h1 =>
    br t21
      (k2 (some (t20, h1)) fun t22 h2 =>
    k2 (vIndex 1 t18 t20 h2) fun t23 h3 =>
    k2 (vLoad1 t23 h3) fun t24 h4 =>
    k2 (some (t22, h4)) fun t7 h5 =>
    k2 (some (t24, h5)) fun t8 h6 =>
    k2 (some (t3, h6)) fun t26 h7 =>
    k2 (some (t8, h7)) fun t27 h8 =>
    k2 (some (t6, h8)) fun t28 h9 =>
    k2 ((fillL [(.int .i64 0), (.int .i64 0)] [(0, 1, t27), (1, 1, t28)]).map fun c => (Value.agg ⟨c⟩, h9)) fun t29 h10 =>
    k2 (vLookup (.leaves [0, 1]) (.int .i64 0) true t26 t29 h10) fun t30 h11 =>
    k2 (some (t30, h11)) fun t25 h12 =>
    k2 (vExtract 0 t25 h12) fun t31 h13 =>
    k2 (vExtract 1 t25 h13) fun t32 h14 =>
    k2 (some (t31, h14)) fun t9 h15 =>
    k2 (some (t32, h15)) fun t10 h16 =>
    k2 (some (t10, h16)) fun t33 h17 =>
    k2 (vUn .not t33 h17) fun t34 h18 =>
    br t34
      (k2 (some (t4, h18)) fun t35 h19 =>
    k2 (some (t7, h19)) fun t36 h20 =>
    k2 (vSlice 1 (fillL (repeatL [(.int .i64 0)] 1) [(0 * 1, 1, t36)]) h20) fun t37 h21 =>
    k2 (bltV h21 (.append 1 8) [t35, t37]) fun t38 h22 =>
    k2 (some (t38, h22)) fun t4_23 h24 =>
    sh X c_judge_classes_2 (K_judge_classes_2 X) (setL [p3, p4, p5, p14, p15] [t3, t4_23, t5, t14, t15]) h24)
      (k2 (vBin .add .other t20 (.int .i64 1) h18) fun t39 h25 =>
    k2 (some (t39, h25)) fun t20_26 h27 =>
    lp X [p3, p4, p5, p6, p14, p15, p18, p19, p20] c_judge_classes_4 (kBlk 2 (kSeq X c_judge_classes_3 [p3, p4, p5, p6, p14, p15] (K_judge_classes_3 X))) [t3, t4, t5, t6, t14, t15, t18, t19, t20_26] h27))
      (sh X c_judge_classes_3 (K_judge_classes_3 X) (setL [p3, p4, p5, p6, p14, p15] [t3, t4, t5, t6, t14, t15]) h1) := by kernel_rfl
theorem l_judge_classes_4 (F : FuncId → Option CFunc) (t3 t4 t5 t6 t14 t15 t18 t19 t20 : Value) (h : H) {r : Out} : let X := rI F; sh X c_judge_classes_4 (K_judge_classes_4 X) (setL [p3, p4, p5, p6, p14, p15, p18, p19, p20] [t3, t4, t5, t6, t14, t15, t18, t19, t20]) h = some r → lp X [p3, p4, p5, p6, p14, p15, p18, p19, p20] c_judge_classes_4 (kBlk 2 (kSeq X c_judge_classes_3 [p3, p4, p5, p6, p14, p15] (K_judge_classes_3 X))) [t3, t4, t5, t6, t14, t15, t18, t19, t20] h = some r := fun hv => lp_step (by decide) hv
theorem s_judge_classes_1 (X : Rn) (t3 t4 t5 t14 t15 : Value) (h : H) : sh X c_judge_classes_1 (K_judge_classes_1 X) (setL [p3, p4, p5, p14, p15] [t3, t4, t5, t14, t15]) h =
    k2 (vBin .lss .other t15 t14 h) fun t16 h1 =>
    br t16
      (k2 (some (t15, h1)) fun t17 h2 =>
    k2 (some (t17, h2)) fun t6 h3 =>
    k2 (some (t5, h3)) fun t18 h4 =>
    k2 (bltV h4 .len [t18]) fun t19 h5 =>
    k2 (some ((.int .i64 0), h5)) fun t20 h6 =>
    lp X [p3, p4, p5, p6, p14, p15, p18, p19, p20] c_judge_classes_4 (kBlk 2 (kSeq X c_judge_classes_3 [p3, p4, p5, p6, p14, p15] (K_judge_classes_3 X))) [t3, t4, t5, t6, t14, t15, t18, t19, t20] h6)
      (sh X c_judge_classes_0 (K_judge_classes_0 X) (setL [p4] [t4]) h1) := by kernel_rfl
theorem l_judge_classes_1 (F : FuncId → Option CFunc) (t3 t4 t5 t14 t15 : Value) (h : H) {r : Out} : let X := rI F; sh X c_judge_classes_1 (K_judge_classes_1 X) (setL [p3, p4, p5, p14, p15] [t3, t4, t5, t14, t15]) h = some r → lp X [p3, p4, p5, p14, p15] c_judge_classes_1 (kBlk 0 (kSeq X c_judge_classes_0 [p4] (K_judge_classes_0 X))) [t3, t4, t5, t14, t15] h = some r := fun hv => lp_step (by decide) hv
theorem s_judge_classes (X : Rn) (t0 : Value) (h : H) : shFunc X 1 f_judge_classes [t0] h =
    k2 (some (newPtr h (cellsL t0))) fun t1 h1 =>
    k2 (some ((.slice none 0 0), h1)) fun t2 h2 =>
    k2 (vLoadN 3 t1 h2) fun t11 h3 =>
    k2 (X.call (.func (.func n_judge_apart) #[] #[]) [t11] h3) fun t12 h4 =>
    k2 (some (t12, h4)) fun t3 h5 =>
    k2 (some ((.slice none 0 0), h5)) fun t4 h6 =>
    k2 (some ((.slice none 0 0), h6)) fun t5 h7 =>
    k2 (vField 0 t1 h7) fun t13 h8 =>
    k2 (vLoad1 t13 h8) fun t14 h9 =>
    k2 (some ((.int .i64 0), h9)) fun t15 h10 =>
    lp X [p3, p4, p5, p14, p15] c_judge_classes_1 (kBlk 0 (kSeq X c_judge_classes_0 [p4] (K_judge_classes_0 X))) [t3, t4, t5, t14, t15] h10 := by kernel_rfl
theorem s_judge_steps (X : Rn) (t0 t1 : Value) (h : H) : shFunc X 2 f_judge_steps [t0, t1] h =
    k2 (some (newPtr h (cellsL t0))) fun t2 h1 =>
    k2 (some (newPtr h1 (cellsL t1))) fun t3 h2 =>
    k2 (some (.nilFunc, h2)) fun t4 h3 =>
    k2 (some (.func (.func n_judge_steps_1) ⟨[]⟩ ⟨[t2, t3]⟩, h3)) fun t5 h4 =>
    k2 (some (t5, h4)) fun t4 h5 =>
    some (.val (tupleOf [t4]) h5) := by kernel_rfl
theorem s_slices_Contains_int_int_ (X : Rn) (t0 t1 : Value) (h : H) : shFunc X 2 f_slices_Contains_int_int_ [t0, t1] h =
    k2 (some ((.bool false), h)) fun t4 h1 =>
    k2 (some (t0, h1)) fun t5 h2 =>
    k2 (some (t1, h2)) fun t6 h3 =>
    k2 (X.call (.func (.func n_slices_Index_int_int_) #[] #[]) [t5, t6] h3) fun t7 h4 =>
    k2 (vBin .geq .other t7 (.int .i64 0) h4) fun t8 h5 =>
    k2 (some (t8, h5)) fun t4 h6 =>
    some (.val (tupleOf [t4]) h6) := by kernel_rfl
theorem s_cmp_Compare_int_ (X : Rn) (t0 t1 : Value) (h : H) : shFunc X 2 f_cmp_Compare_int_ [t0, t1] h =
    k2 (some ((.int .i64 0), h)) fun t4 h1 =>
    k2 (some (t0, h1)) fun t7 h2 =>
    k2 (X.call (.func (.func n_cmp_isNaN_int_) #[] #[]) [t7] h2) fun t8 h3 =>
    k2 (some (t8, h3)) fun t5 h4 =>
    k2 (some (t1, h4)) fun t9 h5 =>
    k2 (X.call (.func (.func n_cmp_isNaN_int_) #[] #[]) [t9] h5) fun t10 h6 =>
    k2 (some (t10, h6)) fun t6 h7 =>
    k2 (some (t5, h7)) fun t11 h8 =>
    br t11
      (k2 (some (t6, h8)) fun t12 h9 =>
    br t12
      (k2 (some ((.int .i64 0), h9)) fun t4 h10 =>
    some (.val (tupleOf [t4]) h10))
      (k2 (some ((.int .i64 (-1)), h9)) fun t4 h11 =>
    some (.val (tupleOf [t4]) h11)))
      (k2 (some (t6, h8)) fun t13 h12 =>
    br t13
      (k2 (some ((.int .i64 1), h12)) fun t4 h13 =>
    some (.val (tupleOf [t4]) h13))
      (k2 (some (t0, h12)) fun t14 h14 =>
    k2 (some (t1, h14)) fun t15 h15 =>
    k2 (vBin .lss .other t14 t15 h15) fun t16 h16 =>
    br t16
      (k2 (some ((.int .i64 (-1)), h16)) fun t4 h17 =>
    some (.val (tupleOf [t4]) h17))
      (k2 (some (t0, h16)) fun t17 h18 =>
    k2 (some (t1, h18)) fun t18 h19 =>
    k2 (vBin .gtr .other t17 t18 h19) fun t19 h20 =>
    br t19
      (k2 (some ((.int .i64 1), h20)) fun t4 h21 =>
    some (.val (tupleOf [t4]) h21))
      (k2 (some ((.int .i64 0), h20)) fun t4 h22 =>
    some (.val (tupleOf [t4]) h22))))) := by kernel_rfl
theorem s_judge_silent_0 (X : Rn) (t5 : Value) (h : H) : sh X c_judge_silent_0 (K_judge_silent_0 X) (setL [p5] [t5]) h =
    k2 (vLoad1 t5 h) fun t31 h1 =>
    k2 (some (t31, h1)) fun t4 h2 =>
    some (.val (tupleOf [t4]) h2) := by kernel_rfl
theorem s_judge_silent_2 (X : Rn) (t2 t4 t5 t6 : Value) (h : H) : sh X c_judge_silent_2 (K_judge_silent_2 X) (setL [p2, p4, p5, p6] [t2, t4, t5, t6]) h =
    k2 (some (t6, h)) fun t14 h1 =>
    k2 (vBin .add .other t14 (.int .i64 1) h1) fun t15 h2 =>
    k2 (some (t15, h2)) fun t6_3 h4 =>
    lp X [p2, p4, p5, p6] c_judge_silent_1 (kBlk 0 (kSeq X c_judge_silent_0 [p5] (K_judge_silent_0 X))) [t2, t4, t5, t6_3] h4 := by kernel_rfl
theorem s_judge_silent_3 (X : Rn) (l : Nat) (t5 t22 : Value) (h : H) : shRound X r_judge_silent_3 l [t22] (setL [p5] [t5]) h =
    k2 (some (t22, h)) fun t7 h1 =>
    busyK l h1 fun h => sh X c_judge_silent_4 (K_judge_silent_4 X l) (setL [p5, p7, p22] [t5, t7, t22]) h := by kernel_rfl
theorem s_judge_silent_4 (X : Rn) (l : Nat) (t5 t7 t22 : Value) (h : H) : sh X c_judge_silent_4 (K_judge_silent_4 X l) (setL [p5, p7, p22] [t5, t7, t22]) h =
    k2 (vLoad1 t5 h) fun t23 h1 =>
    k2 (some (t7, h1)) fun t24 h2 =>
    k2 (X.call (.func (.func n_slices_Contains_int_int_) #[] #[]) [t23, t24] h2) fun t25 h3 =>
    k2 (vUn .not t25 h3) fun t26 h4 =>
    br t26
      (k2 (vLoad1 t5 h4) fun t27 h5 =>
    k2 (some (t7, h5)) fun t28 h6 =>
    k2 (vSlice 1 (fillL (repeatL [(.int .i64 0)] 1) [(0 * 1, 1, t28)]) h6) fun t29 h7 =>
    k2 (bltV h7 (.append 1 8) [t27, t29]) fun t30 h8 =>
    k2 (vStore 1 t5 t30 h8) fun _ h9 =>
    fin l none h9)
      (fin l none h4) := by kernel_rfl
theorem s_judge_silent_1 (X : Rn) (t2 t4 t5 t6 : Value) (h : H) : sh X c_judge_silent_1 (K_judge_silent_1 X) (setL [p2, p4, p5, p6] [t2, t4, t5, t6]) h =
    k2 (some (t6, h)) fun t10 h1 =>
    k2 (vLoad1 t5 h1) fun t11 h2 =>
    k2 (bltV h2 .len [t11]) fun t12 h3 =>
    k2 (vBin .lss .other t10 t12 h3) fun t13 h4 =>
    br t13
      (k2 (rdF (fun b => vLoadN 3 t2 b) 0 h4 [(0, h4)]) fun t16 h5 =>
    k2 (rdF (fun b => vLoad1 t5 b) 0 h5 [(0, h4)]) fun t17 h6 =>
    k2 (some (t6, h6)) fun t18 h7 =>
    k2 (vIndex 1 t17 t18 h7) fun t19 h8 =>
    k2 (rdF (fun b => vLoad1 t19 b) 0 h8 [(0, h4)]) fun t20 h9 =>
    k2 (X.call (.func (.func n_judge_leads) #[] #[]) [t16, t20, (.int .i64 0)] h9) fun t21 h10 =>
    (isFn t21).bind fun fv => k2 (X.call fv [.func (.yield h10.next) #[] #[]] (h10.new (.loop .ready none (setL [p5] [t5]) r_judge_silent_3))) fun _ h11 =>
    rgP h10.next h11 (fun h12 => sh X c_judge_silent_2 (K_judge_silent_2 X) (setL [p2, p4, p5, p6] [t2, t4, t5, t6]) h12) (fun i h12 => bx i 2 (sh X c_judge_silent_2 (K_judge_silent_2 X) (setL [p2, p4, p5, p6] [t2, t4, t5, t6]) h12) (bx i 1 (sh X c_judge_silent_2 (K_judge_silent_2 X) (setL [p2, p4, p5, p6] [t2, t4, t5, t6]) h12) (bx i 0 (sh X c_judge_silent_0 (K_judge_silent_0 X) (setL [p5] [t5]) h12) (none)))) (fun h12 => some (.val (tupleOf [t4]) h12)))
      (sh X c_judge_silent_0 (K_judge_silent_0 X) (setL [p5] [t5]) h4) := by kernel_rfl
theorem l_judge_silent_1 (F : FuncId → Option CFunc) (t2 t4 t5 t6 : Value) (h : H) {r : Out} : let X := rI F; sh X c_judge_silent_1 (K_judge_silent_1 X) (setL [p2, p4, p5, p6] [t2, t4, t5, t6]) h = some r → lp X [p2, p4, p5, p6] c_judge_silent_1 (kBlk 0 (kSeq X c_judge_silent_0 [p5] (K_judge_silent_0 X))) [t2, t4, t5, t6] h = some r := fun hv => lp_step (by decide) hv
theorem s_judge_silent (X : Rn) (t0 t1 : Value) (h : H) : shFunc X 2 f_judge_silent [t0, t1] h =
    k2 (some (newPtr h (cellsL t0))) fun t2 h1 =>
    k2 (some ((.slice none 0 0), h1)) fun t4 h2 =>
    k2 (some (t1, h2)) fun t8 h3 =>
    k2 (vSlice 1 (fillL (repeatL [(.int .i64 0)] 1) [(0 * 1, 1, t8)]) h3) fun t9 h4 =>
    k2 (some (newPtr h4 [(.slice none 0 0)])) fun t5 h5 =>
    k2 (vStore 1 t5 t9 h5) fun _ h6 =>
    k2 (some ((.int .i64 0), h6)) fun t6 h7 =>
    lp X [p2, p4, p5, p6] c_judge_silent_1 (kBlk 0 (kSeq X c_judge_silent_0 [p5] (K_judge_silent_0 X))) [t2, t4, t5, t6] h7 := by kernel_rfl
theorem s_cmp_Or_int__0 (X : Rn) (t3 : Value) (h : H) : sh X c_cmp_Or_int__0 (K_cmp_Or_int__0 X) (setL [p3] [t3]) h =
    k2 (some (t3, h)) fun t17 h1 =>
    k2 (some (t17, h1)) fun t2 h2 =>
    some (.val (tupleOf [t2]) h2) := by kernel_rfl
theorem s_cmp_Or_int__1 (X : Rn) (t3 t6 t7 t8 : Value) (h : H) : sh X c_cmp_Or_int__1 (K_cmp_Or_int__1 X) (setL [p3, p6, p7, p8] [t3, t6, t7, t8]) h =
    k2 (vBin .lss .other t8 t7 h) fun t9 h1 =>
    br t9
      (k2 (vIndex 1 t6 t8 h1) fun t10 h2 =>
    k2 (vLoad1 t10 h2) fun t11 h3 =>
    k2 (some (t11, h3)) fun t5 h4 =>
    k2 (some (t5, h4)) fun t12 h5 =>
    k2 (some (t3, h5)) fun t13 h6 =>
    k2 (vBin .neq .other t12 t13 h6) fun t14 h7 =>
    br t14
      (k2 (some (t5, h7)) fun t15 h8 =>
    k2 (some (t15, h8)) fun t2 h9 =>
    some (.val (tupleOf [t2]) h9))
      (k2 (vBin .add .other t8 (.int .i64 1) h7) fun t16 h10 =>
    k2 (some (t16, h10)) fun t8_11 h12 =>
    lp X [p3, p6, p7, p8] c_cmp_Or_int__1 (kBlk 0 (kSeq X c_cmp_Or_int__0 [p3] (K_cmp_Or_int__0 X))) [t3, t6, t7, t8_11] h12))
      (sh X c_cmp_Or_int__0 (K_cmp_Or_int__0 X) (setL [p3] [t3]) h1) := by kernel_rfl
theorem l_cmp_Or_int__1 (F : FuncId → Option CFunc) (t3 t6 t7 t8 : Value) (h : H) {r : Out} : let X := rI F; sh X c_cmp_Or_int__1 (K_cmp_Or_int__1 X) (setL [p3, p6, p7, p8] [t3, t6, t7, t8]) h = some r → lp X [p3, p6, p7, p8] c_cmp_Or_int__1 (kBlk 0 (kSeq X c_cmp_Or_int__0 [p3] (K_cmp_Or_int__0 X))) [t3, t6, t7, t8] h = some r := fun hv => lp_step (by decide) hv
theorem s_cmp_Or_int_ (X : Rn) (t0 : Value) (h : H) : shFunc X 1 f_cmp_Or_int_ [t0] h =
    k2 (some ((.int .i64 0), h)) fun t2 h1 =>
    k2 (some ((.int .i64 0), h1)) fun t3 h2 =>
    k2 (some (t0, h2)) fun t6 h3 =>
    k2 (bltV h3 .len [t6]) fun t7 h4 =>
    k2 (some ((.int .i64 0), h4)) fun t8 h5 =>
    lp X [p3, p6, p7, p8] c_cmp_Or_int__1 (kBlk 0 (kSeq X c_cmp_Or_int__0 [p3] (K_cmp_Or_int__0 X))) [t3, t6, t7, t8] h5 := by kernel_rfl
theorem s_judge_rounds_first_0 (X : Rn) (t10 t11 : Value) (h : H) : sh X c_judge_rounds_first_0 (K_judge_rounds_first_0 X) (setL [p10, p11] [t10, t11]) h =
    k2 ((fillL [(.int .i64 0), (.int .i64 0), (.int .i64 0)] []).map fun c => (Value.agg ⟨c⟩, h)) fun t24 h1 =>
    k2 (vStore 3 t10 t24 h1) fun _ h2 =>
    k2 (vStore 1 t11 (.bool false) h2) fun _ h3 =>
    (vRes (some 3) t10 h3).bind fun r0 => (vRes none t11 h3).bind fun r1 => some (.val (tupleOf [r0, r1]) h3) := by kernel_rfl
theorem s_judge_rounds_first_1 (X : Rn) (l : Nat) (t5 t6 t8 t9 t10 t11 t16 : Value) (h : H) : shRound X r_judge_rounds_first_1 l [t16] (setL [p5, p6, p8, p9, p10, p11] [t5, t6, t8, t9, t10, t11]) h =
    k2 (some (newPtr h [(.int .i64 0), (.int .i64 0), (.int .i64 0)])) fun t12 h1 =>
    k2 (vStore 3 t12 t16 h1) fun _ h2 =>
    busyK l h2 fun h => sh X c_judge_rounds_first_2 (K_judge_rounds_first_2 X l) (setL [p5, p6, p8, p9, p10, p11, p12, p16] [t5, t6, t8, t9, t10, t11, t12, t16]) h := by kernel_rfl
theorem s_judge_rounds_first_2 (X : Rn) (l : Nat) (t5 t6 t8 t9 t10 t11 t12 t16 : Value) (h : H) : sh X c_judge_rounds_first_2 (K_judge_rounds_first_2 X l) (setL [p5, p6, p8, p9, p10, p11, p12, p16] [t5, t6, t8, t9, t10, t11, t12, t16]) h =
    k2 (vLoad1 t5 h) fun t17 h1 =>
    k2 (vLoadN 3 t6 h1) fun t18 h2 =>
    k2 (vLoadN 3 t12 h2) fun t19 h3 =>
    k2 (vLoad1 t8 h3) fun t20 h4 =>
    k2 (vLoad1 t9 h4) fun t21 h5 =>
    k2 (X.call (.func (.func n_judge_rounds_told) #[] #[]) [t17, t18, t19, t20, t21] h5) fun t22 h6 =>
    br t22
      (k2 (vLoadN 3 t12 h6) fun t23 h7 =>
    k2 (vStore 3 t10 t23 h7) fun _ h8 =>
    k2 (vStore 1 t11 (.bool true) h8) fun _ h9 =>
    fin l (some .ret) h9)
      (fin l none h6) := by kernel_rfl
theorem s_judge_rounds_first (X : Rn) (t0 t1 t2 t3 t4 : Value) (h : H) : shFunc X 5 f_judge_rounds_first [t0, t1, t2, t3, t4] h =
    k2 (some (newPtr h (cellsL t0))) fun t5 h1 =>
    k2 (some (newPtr h1 (cellsL t1))) fun t6 h2 =>
    k2 (some (newPtr h2 (cellsL t3))) fun t8 h3 =>
    k2 (some (newPtr h3 (cellsL t4))) fun t9 h4 =>
    k2 (some (newPtr h4 [(.int .i64 0), (.int .i64 0), (.int .i64 0)])) fun t10 h5 =>
    k2 (some (newPtr h5 [(.bool false)])) fun t11 h6 =>
    k2 (vLoadN 3 t6 h6) fun t13 h7 =>
    k2 (some (t2, h7)) fun t14 h8 =>
    k2 (X.call (.func (.func n_judge_steps) #[] #[]) [t13, t14] h8) fun t15 h9 =>
    (isFn t15).bind fun fv => k2 (X.call fv [.func (.yield h9.next) #[] #[]] (h9.new (.loop .ready none (setL [p5, p6, p8, p9, p10, p11] [t5, t6, t8, t9, t10, t11]) r_judge_rounds_first_1))) fun _ h10 =>
    rgP h9.next h10 (fun h11 => sh X c_judge_rounds_first_0 (K_judge_rounds_first_0 X) (setL [p10, p11] [t10, t11]) h11) (fun i h11 => bx i 0 (sh X c_judge_rounds_first_0 (K_judge_rounds_first_0 X) (setL [p10, p11] [t10, t11]) h11) (none)) (fun h11 => (vRes (some 3) t10 h11).bind fun r0 => (vRes none t11 h11).bind fun r1 => some (.val (tupleOf [r0, r1]) h11)) := by kernel_rfl
theorem s_judge_leads (X : Rn) (t0 t1 t2 : Value) (h : H) : shFunc X 3 f_judge_leads [t0, t1, t2] h =
    k2 (some (newPtr h (cellsL t0))) fun t3 h1 =>
    k2 (some (newPtr h1 (cellsL t1))) fun t4 h2 =>
    k2 (some (newPtr h2 (cellsL t2))) fun t5 h3 =>
    k2 (some (.nilFunc, h3)) fun t6 h4 =>
    k2 (some (.func (.func n_judge_leads_1) ⟨[]⟩ ⟨[t3, t4, t5]⟩, h4)) fun t7 h5 =>
    k2 (some (t7, h5)) fun t6 h6 =>
    some (.val (tupleOf [t6]) h6) := by kernel_rfl
theorem s_cabotageref22_split_0 (X : Rn) (h : H) : sh X c_cabotageref22_split_0 (K_cabotageref22_split_0 X) (setL [] []) h =
    k2 (some ((.bool false), h)) fun t8 h1 =>
    some (.val (tupleOf [t8]) h1) := by kernel_rfl
theorem s_cabotageref22_split_1 (X : Rn) (t0 t1 t2 t3 t9 : Value) (h : H) : sh X c_cabotageref22_split_1 (K_cabotageref22_split_1 X) (setL [p0, p1, p2, p3, p9] [t0, t1, t2, t3, t9]) h =
    k2 (some (t9, h)) fun t10 h1 =>
    k2 (some (t0, h1)) fun t11 h2 =>
    k2 (some (t2, h2)) fun t12 h3 =>
    k2 (vIndex 1 t11 t12 h3) fun t13 h4 =>
    k2 (vLoad1 t13 h4) fun t14 h5 =>
    k2 (bltV h5 .len [t14]) fun t15 h6 =>
    k2 (vBin .lss .other t10 t15 h6) fun t16 h7 =>
    br t16
      (k2 (some (t0, h7)) fun t19 h8 =>
    k2 (some (t1, h8)) fun t20 h9 =>
    k2 (some (t0, h9)) fun t21 h10 =>
    k2 (some (t2, h10)) fun t22 h11 =>
    k2 (vIndex 1 t21 t22 h11) fun t23 h12 =>
    k2 (vLoad1 t23 h12) fun t24 h13 =>
    k2 (some (t9, h13)) fun t25 h14 =>
    k2 (vIndex 3 t24 t25 h14) fun t26 h15 =>
    k2 (vLoadN 3 t26 h15) fun t27 h16 =>
    k2 (some (t3, h16)) fun t28 h17 =>
    k2 (X.call (.func (.func n_cabotageref22_answerless) #[] #[]) [t19, t20, t27, t28, (.int .i64 (-1))] h17) fun t29 h18 =>
    br t29
      (k2 (some ((.bool true), h18)) fun t8 h19 =>
    some (.val (tupleOf [t8]) h19))
      (k2 (some (t9, h18)) fun t17 h20 =>
    k2 (vBin .add .other t17 (.int .i64 1) h20) fun t18 h21 =>
    k2 (some (t18, h21)) fun t9_22 h23 =>
    lp X [p0, p1, p2, p3, p9] c_cabotageref22_split_1 (kBlk 0 (kSeq X c_cabotageref22_split_0 [] (K_cabotageref22_split_0 X))) [t0, t1, t2, t3, t9_22] h23))
      (sh X c_cabotageref22_split_0 (K_cabotageref22_split_0 X) (setL [] []) h7) := by kernel_rfl
theorem l_cabotageref22_split_1 (F : FuncId → Option CFunc) (t0 t1 t2 t3 t9 : Value) (h : H) {r : Out} : let X := rI F; sh X c_cabotageref22_split_1 (K_cabotageref22_split_1 X) (setL [p0, p1, p2, p3, p9] [t0, t1, t2, t3, t9]) h = some r → lp X [p0, p1, p2, p3, p9] c_cabotageref22_split_1 (kBlk 0 (kSeq X c_cabotageref22_split_0 [] (K_cabotageref22_split_0 X))) [t0, t1, t2, t3, t9] h = some r := fun hv => lp_step (by decide) hv
theorem s_cabotageref22_split (X : Rn) (t0 t1 t2 t3 : Value) (h : H) : shFunc X 4 f_cabotageref22_split [t0, t1, t2, t3] h =
    k2 (some ((.bool false), h)) fun t8 h1 =>
    k2 (some ((.int .i64 0), h1)) fun t9 h2 =>
    lp X [p0, p1, p2, p3, p9] c_cabotageref22_split_1 (kBlk 0 (kSeq X c_cabotageref22_split_0 [] (K_cabotageref22_split_0 X))) [t0, t1, t2, t3, t9] h2 := by kernel_rfl
theorem s_cabotageref22_answerless_0 (X : Rn) (h : H) : sh X c_cabotageref22_answerless_0 (K_cabotageref22_answerless_0 X) (setL [] []) h =
    k2 (some ((.bool true), h)) fun t10 h1 =>
    some (.val (tupleOf [t10]) h1) := by kernel_rfl
theorem s_cabotageref22_answerless_2 (X : Rn) (t0 t1 t3 t4 t7 t11 : Value) (h : H) : sh X c_cabotageref22_answerless_2 (K_cabotageref22_answerless_2 X) (setL [p0, p1, p3, p4, p7, p11] [t0, t1, t3, t4, t7, t11]) h =
    k2 (some (t11, h)) fun t21 h1 =>
    k2 (vBin .add .other t21 (.int .i64 1) h1) fun t22 h2 =>
    k2 (some (t22, h2)) fun t11_3 h4 =>
    lp X [p0, p1, p3, p4, p7, p11] c_cabotageref22_answerless_1 (kBlk 0 (kSeq X c_cabotageref22_answerless_0 [] (K_cabotageref22_answerless_0 X))) [t0, t1, t3, t4, t7, t11_3] h4 := by kernel_rfl
theorem s_cabotageref22_answerless_1 (X : Rn) (t0 t1 t3 t4 t7 t11 : Value) (h : H) : sh X c_cabotageref22_answerless_1 (K_cabotageref22_answerless_1 X) (setL [p0, p1, p3, p4, p7, p11] [t0, t1, t3, t4, t7, t11]) h =
    k2 (some (t11, h)) fun t14 h1 =>
    k2 (some (t0, h1)) fun t15 h2 =>
    k2 (some (t3, h2)) fun t16 h3 =>
    k2 (vIndex 1 t15 t16 h3) fun t17 h4 =>
    k2 (vLoad1 t17 h4) fun t18 h5 =>
    k2 (bltV h5 .len [t18]) fun t19 h6 =>
    k2 (vBin .lss .other t14 t19 h6) fun t20 h7 =>
    br t20
      (k2 (some (t0, h7)) fun t23 h8 =>
    k2 (some (t3, h8)) fun t24 h9 =>
    k2 (vIndex 1 t23 t24 h9) fun t25 h10 =>
    k2 (vLoad1 t25 h10) fun t26 h11 =>
    k2 (some (t11, h11)) fun t27 h12 =>
    k2 (vIndex 3 t26 t27 h12) fun t28 h13 =>
    k2 (vLoadN 3 t28 h13) fun t29 h14 =>
    k2 (some (newPtr h14 [(.int .i64 0), (.int .i64 0), (.int .i64 0)])) fun t12 h15 =>
    k2 (vStore 3 t12 t29 h15) fun _ h16 =>
    k2 (vField 2 t12 h16) fun t30 h17 =>
    k2 (vLoad1 t30 h17) fun t31 h18 =>
    k2 (vField 2 t7 h18) fun t32 h19 =>
    k2 (vLoad1 t32 h19) fun t33 h20 =>
    k2 (vBin .neq .other t31 t33 h20) fun t34 h21 =>
    br t34
      (sh X c_cabotageref22_answerless_2 (K_cabotageref22_answerless_2 X) (setL [p0, p1, p3, p4, p7, p11] [t0, t1, t3, t4, t7, t11]) h21)
      (k2 (some (t1, h21)) fun t35 h22 =>
    k2 (vField 1 t7 h22) fun t36 h23 =>
    k2 (rdF (fun b => vLoad1 t36 b) 0 h23 [(0, h21)]) fun t37 h24 =>
    k2 (vIndex 1 t35 t37 h24) fun t38 h25 =>
    k2 (rdF (fun b => vLoad1 t38 b) 0 h25 [(0, h21)]) fun t39 h26 =>
    k2 (vField 1 t12 h26) fun t40 h27 =>
    k2 (rdF (fun b => vLoad1 t40 b) 0 h27 [(0, h21)]) fun t41 h28 =>
    k2 (vIndex 1 t39 t41 h28) fun t42 h29 =>
    k2 (rdF (fun b => vLoad1 t42 b) 0 h29 [(0, h21)]) fun t43 h30 =>
    k2 (some (t43, h30)) fun t13 h31 =>
    k2 (some (t13, h31)) fun t44 h32 =>
    k2 (vBin .eql .other t44 (.int .i64 0) h32) fun t45 h33 =>
    k2 (some (t45, h33)) fun t46 h34 =>
    k2 (gd t46 false h34 (some (t4, h34))) fun t47 h35 =>
    k2 (gd t46 false h35 (vBin .geq .other t47 (.int .i64 0) h35)) fun t48 h36 =>
    k2 (gd t46 false h36 (some (t48, h36))) fun t49 h37 =>
    k2 (gd t49 true h37 (some (t13, h37))) fun t50 h38 =>
    k2 (gd t49 true h38 (some (t4, h38))) fun t51 h39 =>
    k2 (gd t49 true h39 (vBin .gtr .other t50 t51 h39)) fun t52 h40 =>
    k2 (gd t46 false h40 (vPick t49 t52 (.bool false) h40)) fun t53 h41 =>
    k2 (vPick t46 (.bool true) t53 h41) fun t54 h42 =>
    br t54
      (k2 (some ((.bool false), h42)) fun t10 h43 =>
    some (.val (tupleOf [t10]) h43))
      (sh X c_cabotageref22_answerless_2 (K_cabotageref22_answerless_2 X) (setL [p0, p1, p3, p4, p7, p11] [t0, t1, t3, t4, t7, t11]) h42)))
      (sh X c_cabotageref22_answerless_0 (K_cabotageref22_answerless_0 X) (setL [] []) h7) := by kernel_rfl
theorem l_cabotageref22_answerless_1 (F : FuncId → Option CFunc) (t0 t1 t3 t4 t7 t11 : Value) (h : H) {r : Out} : let X := rI F; sh X c_cabotageref22_answerless_1 (K_cabotageref22_answerless_1 X) (setL [p0, p1, p3, p4, p7, p11] [t0, t1, t3, t4, t7, t11]) h = some r → lp X [p0, p1, p3, p4, p7, p11] c_cabotageref22_answerless_1 (kBlk 0 (kSeq X c_cabotageref22_answerless_0 [] (K_cabotageref22_answerless_0 X))) [t0, t1, t3, t4, t7, t11] h = some r := fun hv => lp_step (by decide) hv
theorem s_cabotageref22_answerless (X : Rn) (t0 t1 t2 t3 t4 : Value) (h : H) : shFunc X 5 f_cabotageref22_answerless [t0, t1, t2, t3, t4] h =
    k2 (some (newPtr h (cellsL t2))) fun t7 h1 =>
    k2 (some ((.bool false), h1)) fun t10 h2 =>
    k2 (some ((.int .i64 0), h2)) fun t11 h3 =>
    lp X [p0, p1, p3, p4, p7, p11] c_cabotageref22_answerless_1 (kBlk 0 (kSeq X c_cabotageref22_answerless_0 [] (K_cabotageref22_answerless_0 X))) [t0, t1, t3, t4, t7, t11] h3 := by kernel_rfl
theorem s_slices_Clone_api_JudgeEdge_api_JudgeEdge_ (X : Rn) (t0 : Value) (h : H) : shFunc X 1 f_slices_Clone_api_JudgeEdge_api_JudgeEdge_ [t0] h =
    k2 (some ((.slice none 0 0), h)) fun t2 h1 =>
    k2 (some (t0, h1)) fun t3 h2 =>
    k2 (vBin .eql .slice t3 (.slice none 0 0) h2) fun t4 h3 =>
    br t4
      (k2 (some ((.slice none 0 0), h3)) fun t2 h4 =>
    some (.val (tupleOf [t2]) h4))
      (k2 (vSlice 0 (fillL (repeatL [(.int .i64 0), (.int .i64 0), (.int .i64 0)] 0) []) h3) fun t5 h5 =>
    k2 (some (t0, h5)) fun t6 h6 =>
    k2 (bltV h6 (.append 3 24) [t5, t6]) fun t7 h7 =>
    k2 (some (t7, h7)) fun t2 h8 =>
    some (.val (tupleOf [t2]) h8)) := by kernel_rfl
theorem s_judge_steps_1_0 (X : Rn) (t0 t2 t18 t19 t20 : Value) (h : H) : sh X c_judge_steps_1_0 (K_judge_steps_1_0 X) (setL [p0, p2, p18, p19, p20] [t0, t2, t18, t19, t20]) h =
    k2 (vBin .lss .other t20 t19 h) fun t21 h1 =>
    br t21
      (k2 (vIndex 3 t18 t20 h1) fun t22 h2 =>
    k2 (vLoadN 3 t22 h2) fun t23 h3 =>
    k2 (some (newPtr h3 [(.int .i64 0), (.int .i64 0), (.int .i64 0)])) fun t7 h4 =>
    k2 (vStore 3 t7 t23 h4) fun _ h5 =>
    k2 (vField 0 t7 h5) fun t24 h6 =>
    k2 (vLoad1 t24 h6) fun t25 h7 =>
    k2 (vLoad1 t2 h7) fun t26 h8 =>
    k2 (vBin .neq .other t25 t26 h8) fun t27 h9 =>
    k2 (some (t27, h9)) fun t28 h10 =>
    k2 (gd t28 false h10 (some (t0, h10))) fun t29 h11 =>
    k2 (gd t28 false h11 (vLoadN 3 t7 h11)) fun t30 h12 =>
    k2 (gd t28 false h12 (X.call t29 [t30] h12)) fun t31 h13 =>
    k2 (gd t28 false h13 (vUn .not t31 h13)) fun t32 h14 =>
    k2 (vPick t28 (.bool true) t32 h14) fun t33 h15 =>
    br t33
      (some (.val (tupleOf []) h15))
      (k2 (vBin .add .other t20 (.int .i64 1) h15) fun t34 h16 =>
    k2 (some (t34, h16)) fun t20_17 h18 =>
    lp X [p0, p2, p18, p19, p20] c_judge_steps_1_0 (kBlk 0 (fnK [])) [t0, t2, t18, t19, t20_17] h18))
      (some (.val (tupleOf []) h1)) := by kernel_rfl
theorem l_judge_steps_1_0 (F : FuncId → Option CFunc) (t0 t2 t18 t19 t20 : Value) (h : H) {r : Out} : let X := rI F; sh X c_judge_steps_1_0 (K_judge_steps_1_0 X) (setL [p0, p2, p18, p19, p20] [t0, t2, t18, t19, t20]) h = some r → lp X [p0, p2, p18, p19, p20] c_judge_steps_1_0 (kBlk 0 (fnK [])) [t0, t2, t18, t19, t20] h = some r := fun hv => lp_step (by decide) hv
theorem s_judge_steps_1 (X : Rn) (t0 t1 t2 : Value) (h : H) : shFunc X 3 f_judge_steps_1 [t0, t1, t2] h =
    k2 (vField 2 t1 h) fun t9 h1 =>
    k2 (vLoad1 t9 h1) fun t10 h2 =>
    k2 (vLoad1 t2 h2) fun t11 h3 =>
    k2 (X.call (.func (.func n_slices_BinarySearchFunc_api_JudgeEdge_api_JudgeEdge_int_) #[] #[]) [t10, t11, (.func (.func n_judge_steps_1_1) #[] #[])] h3) fun t12 h4 =>
    k2 (some (t12, h4)) fun t8 h5 =>
    k2 (vExtract 0 t8 h5) fun t13 h6 =>
    k2 (vExtract 1 t8 h6) fun t14 h7 =>
    k2 (some (t13, h7)) fun t4 h8 =>
    k2 (some (t14, h8)) fun t5 h9 =>
    k2 (vField 2 t1 h9) fun t15 h10 =>
    k2 (vLoad1 t15 h10) fun t16 h11 =>
    k2 (some (t4, h11)) fun t17 h12 =>
    k2 (sliceV 3 h12 (some t17) none t16) fun t18 h13 =>
    k2 (bltV h13 .len [t18]) fun t19 h14 =>
    k2 (some ((.int .i64 0), h14)) fun t20 h15 =>
    lp X [p0, p2, p18, p19, p20] c_judge_steps_1_0 (kBlk 0 (fnK [])) [t0, t2, t18, t19, t20] h15 := by kernel_rfl
theorem s_slices_BinarySearchFunc_api_JudgeEdge_api_JudgeEdge_int__0 (X : Rn) (t0 t1 t2 t8 t9 : Value) (h : H) : sh X c_slices_BinarySearchFunc_api_JudgeEdge_api_JudgeEdge_int__0 (K_slices_BinarySearchFunc_api_JudgeEdge_api_JudgeEdge_int__0 X) (setL [p0, p1, p2, p8, p9] [t0, t1, t2, t8, t9]) h =
    k2 (some (t9, h)) fun t35 h1 =>
    k2 (some (t9, h1)) fun t36 h2 =>
    k2 (some (t8, h2)) fun t37 h3 =>
    k2 (vBin .lss .other t36 t37 h3) fun t38 h4 =>
    k2 (some (t38, h4)) fun t39 h5 =>
    k2 (gd t39 true h5 (some (t2, h5))) fun t40 h6 =>
    k2 (gd t39 true h6 (some (t0, h6))) fun t41 h7 =>
    k2 (gd t39 true h7 (some (t9, h7))) fun t42 h8 =>
    k2 (gd t39 true h8 (vIndex 3 t41 t42 h8)) fun t43 h9 =>
    k2 (gd t39 true h9 (vLoadN 3 t43 h9)) fun t44 h10 =>
    k2 (gd t39 true h10 (some (t1, h10))) fun t45 h11 =>
    k2 (gd t39 true h11 (X.call t40 [t44, t45] h11)) fun t46 h12 =>
    k2 (gd t39 true h12 (vBin .eql .other t46 (.int .i64 0) h12)) fun t47 h13 =>
    k2 (vPick t39 t47 (.bool false) h13) fun t48 h14 =>
    k2 (some (t35, h14)) fun t6 h15 =>
    k2 (some (t48, h15)) fun t7 h16 =>
    some (.val (tupleOf [t6, t7]) h16) := by kernel_rfl
theorem s_slices_BinarySearchFunc_api_JudgeEdge_api_JudgeEdge_int__1 (X : Rn) (t0 t1 t2 t8 t9 t10 : Value) (h : H) : sh X c_slices_BinarySearchFunc_api_JudgeEdge_api_JudgeEdge_int__1 (K_slices_BinarySearchFunc_api_JudgeEdge_api_JudgeEdge_int__1 X) (setL [p0, p1, p2, p8, p9, p10] [t0, t1, t2, t8, t9, t10]) h =
    k2 (some (t9, h)) fun t15 h1 =>
    k2 (some (t10, h1)) fun t16 h2 =>
    k2 (vBin .lss .other t15 t16 h2) fun t17 h3 =>
    br t17
      (k2 (some (t9, h3)) fun t18 h4 =>
    k2 (some (t10, h4)) fun t19 h5 =>
    k2 (vBin .add .other t18 t19 h5) fun t20 h6 =>
    k2 (vConv .u64 t20 h6) fun t21 h7 =>
    k2 (vBin .shr .other t21 (.int .u64 1) h7) fun t22 h8 =>
    k2 (vConv .i64 t22 h8) fun t23 h9 =>
    k2 (some (t23, h9)) fun t11 h10 =>
    k2 (some (t2, h10)) fun t24 h11 =>
    k2 (some (t0, h11)) fun t25 h12 =>
    k2 (some (t11, h12)) fun t26 h13 =>
    k2 (vIndex 3 t25 t26 h13) fun t27 h14 =>
    k2 (vLoadN 3 t27 h14) fun t28 h15 =>
    k2 (some (t1, h15)) fun t29 h16 =>
    k2 (X.call t24 [t28, t29] h16) fun t30 h17 =>
    k2 (vBin .lss .other t30 (.int .i64 0) h17) fun t31 h18 =>
    br t31
      (k2 (some (t11, h18)) fun t32 h19 =>
    k2 (vBin .add .other t32 (.int .i64 1) h19) fun t33 h20 =>
    k2 (some (t33, h20)) fun t9_21 h22 =>
    lp X [p0, p1, p2, p8, p9, p10] c_slices_BinarySearchFunc_api_JudgeEdge_api_JudgeEdge_int__1 (kBlk 0 (kSeq X c_slices_BinarySearchFunc_api_JudgeEdge_api_JudgeEdge_int__0 [p0, p1, p2, p8, p9] (K_slices_BinarySearchFunc_api_JudgeEdge_api_JudgeEdge_int__0 X))) [t0, t1, t2, t8, t9_21, t10] h22)
      (k2 (some (t11, h18)) fun t34 h23 =>
    k2 (some (t34, h23)) fun t10_24 h25 =>
    lp X [p0, p1, p2, p8, p9, p10] c_slices_BinarySearchFunc_api_JudgeEdge_api_JudgeEdge_int__1 (kBlk 0 (kSeq X c_slices_BinarySearchFunc_api_JudgeEdge_api_JudgeEdge_int__0 [p0, p1, p2, p8, p9] (K_slices_BinarySearchFunc_api_JudgeEdge_api_JudgeEdge_int__0 X))) [t0, t1, t2, t8, t9, t10_24] h25))
      (sh X c_slices_BinarySearchFunc_api_JudgeEdge_api_JudgeEdge_int__0 (K_slices_BinarySearchFunc_api_JudgeEdge_api_JudgeEdge_int__0 X) (setL [p0, p1, p2, p8, p9] [t0, t1, t2, t8, t9]) h3) := by kernel_rfl
theorem l_slices_BinarySearchFunc_api_JudgeEdge_api_JudgeEdge_int__1 (F : FuncId → Option CFunc) (t0 t1 t2 t8 t9 t10 : Value) (h : H) {r : Out} : let X := rI F; sh X c_slices_BinarySearchFunc_api_JudgeEdge_api_JudgeEdge_int__1 (K_slices_BinarySearchFunc_api_JudgeEdge_api_JudgeEdge_int__1 X) (setL [p0, p1, p2, p8, p9, p10] [t0, t1, t2, t8, t9, t10]) h = some r → lp X [p0, p1, p2, p8, p9, p10] c_slices_BinarySearchFunc_api_JudgeEdge_api_JudgeEdge_int__1 (kBlk 0 (kSeq X c_slices_BinarySearchFunc_api_JudgeEdge_api_JudgeEdge_int__0 [p0, p1, p2, p8, p9] (K_slices_BinarySearchFunc_api_JudgeEdge_api_JudgeEdge_int__0 X))) [t0, t1, t2, t8, t9, t10] h = some r := fun hv => lp_step (by decide) hv
theorem s_slices_BinarySearchFunc_api_JudgeEdge_api_JudgeEdge_int_ (X : Rn) (t0 t1 t2 : Value) (h : H) : shFunc X 3 f_slices_BinarySearchFunc_api_JudgeEdge_api_JudgeEdge_int_ [t0, t1, t2] h =
    k2 (some ((.int .i64 0), h)) fun t6 h1 =>
    k2 (some ((.bool false), h1)) fun t7 h2 =>
    k2 (some (t0, h2)) fun t12 h3 =>
    k2 (bltV h3 .len [t12]) fun t13 h4 =>
    k2 (some (t13, h4)) fun t8 h5 =>
    k2 (some (t8, h5)) fun t14 h6 =>
    k2 (some ((.int .i64 0), h6)) fun t9 h7 =>
    k2 (some (t14, h7)) fun t10 h8 =>
    lp X [p0, p1, p2, p8, p9, p10] c_slices_BinarySearchFunc_api_JudgeEdge_api_JudgeEdge_int__1 (kBlk 0 (kSeq X c_slices_BinarySearchFunc_api_JudgeEdge_api_JudgeEdge_int__0 [p0, p1, p2, p8, p9] (K_slices_BinarySearchFunc_api_JudgeEdge_api_JudgeEdge_int__0 X))) [t0, t1, t2, t8, t9, t10] h8 := by kernel_rfl
theorem s_judge_steps_1_1 (X : Rn) (t0 t1 : Value) (h : H) : shFunc X 2 f_judge_steps_1_1 [t0, t1] h =
    k2 (some (newPtr h (cellsL t0))) fun t2 h1 =>
    k2 (some ((.int .i64 0), h1)) fun t4 h2 =>
    k2 (vField 0 t2 h2) fun t5 h3 =>
    k2 (vLoad1 t5 h3) fun t6 h4 =>
    k2 (some (t1, h4)) fun t7 h5 =>
    k2 (X.call (.func (.func n_cmp_Compare_int_) #[] #[]) [t6, t7] h5) fun t8 h6 =>
    k2 (some (t8, h6)) fun t4 h7 =>
    some (.val (tupleOf [t4]) h7) := by kernel_rfl
theorem s_slices_Index_int_int__0 (X : Rn) (h : H) : sh X c_slices_Index_int_int__0 (K_slices_Index_int_int__0 X) (setL [] []) h =
    k2 (some ((.int .i64 (-1)), h)) fun t4 h1 =>
    some (.val (tupleOf [t4]) h1) := by kernel_rfl
theorem s_slices_Index_int_int__1 (X : Rn) (t0 t1 t7 t8 : Value) (h : H) : sh X c_slices_Index_int_int__1 (K_slices_Index_int_int__1 X) (setL [p0, p1, p7, p8] [t0, t1, t7, t8]) h =
    k2 (vBin .lss .other t8 t7 h) fun t9 h1 =>
    br t9
      (k2 (some (t8, h1)) fun t10 h2 =>
    k2 (some (t10, h2)) fun t5 h3 =>
    k2 (some (t1, h3)) fun t11 h4 =>
    k2 (some (t0, h4)) fun t12 h5 =>
    k2 (some (t5, h5)) fun t13 h6 =>
    k2 (vIndex 1 t12 t13 h6) fun t14 h7 =>
    k2 (vLoad1 t14 h7) fun t15 h8 =>
    k2 (vBin .eql .other t11 t15 h8) fun t16 h9 =>
    br t16
      (k2 (some (t5, h9)) fun t17 h10 =>
    k2 (some (t17, h10)) fun t4 h11 =>
    some (.val (tupleOf [t4]) h11))
      (k2 (vBin .add .other t8 (.int .i64 1) h9) fun t18 h12 =>
    k2 (some (t18, h12)) fun t8_13 h14 =>
    lp X [p0, p1, p7, p8] c_slices_Index_int_int__1 (kBlk 0 (kSeq X c_slices_Index_int_int__0 [] (K_slices_Index_int_int__0 X))) [t0, t1, t7, t8_13] h14))
      (sh X c_slices_Index_int_int__0 (K_slices_Index_int_int__0 X) (setL [] []) h1) := by kernel_rfl
theorem l_slices_Index_int_int__1 (F : FuncId → Option CFunc) (t0 t1 t7 t8 : Value) (h : H) {r : Out} : let X := rI F; sh X c_slices_Index_int_int__1 (K_slices_Index_int_int__1 X) (setL [p0, p1, p7, p8] [t0, t1, t7, t8]) h = some r → lp X [p0, p1, p7, p8] c_slices_Index_int_int__1 (kBlk 0 (kSeq X c_slices_Index_int_int__0 [] (K_slices_Index_int_int__0 X))) [t0, t1, t7, t8] h = some r := fun hv => lp_step (by decide) hv
theorem s_slices_Index_int_int_ (X : Rn) (t0 t1 : Value) (h : H) : shFunc X 2 f_slices_Index_int_int_ [t0, t1] h =
    k2 (some ((.int .i64 0), h)) fun t4 h1 =>
    k2 (some (t0, h1)) fun t6 h2 =>
    k2 (bltV h2 .len [t6]) fun t7 h3 =>
    k2 (some ((.int .i64 0), h3)) fun t8 h4 =>
    lp X [p0, p1, p7, p8] c_slices_Index_int_int__1 (kBlk 0 (kSeq X c_slices_Index_int_int__0 [] (K_slices_Index_int_int__0 X))) [t0, t1, t7, t8] h4 := by kernel_rfl
theorem s_cmp_isNaN_int_ (X : Rn) (t0 : Value) (h : H) : shFunc X 1 f_cmp_isNaN_int_ [t0] h =
    k2 (some ((.bool false), h)) fun t2 h1 =>
    k2 (some (t0, h1)) fun t3 h2 =>
    k2 (some (t0, h2)) fun t4 h3 =>
    k2 (vBin .neq .other t3 t4 h3) fun t5 h4 =>
    k2 (some (t5, h4)) fun t2 h5 =>
    some (.val (tupleOf [t2]) h5) := by kernel_rfl
theorem s_judge_rounds_told_0 (X : Rn) (t10 : Value) (h : H) : sh X c_judge_rounds_told_0 (K_judge_rounds_told_0 X) (setL [p10] [t10]) h =
    k2 (vStore 1 t10 (.bool true) h) fun _ h1 =>
    (vRes none t10 h1).bind fun r0 => some (.val (tupleOf [r0]) h1) := by kernel_rfl
theorem s_judge_rounds_told_1 (X : Rn) (l : Nat) (t5 t7 t9 t10 t20 : Value) (h : H) : shRound X r_judge_rounds_told_1 l [t20] (setL [p5, p7, p9, p10] [t5, t7, t9, t10]) h =
    k2 (some (t20, h)) fun t11 h1 =>
    busyK l h1 fun h => sh X c_judge_rounds_told_2 (K_judge_rounds_told_2 X l) (setL [p5, p7, p9, p10, p11, p20] [t5, t7, t9, t10, t11, t20]) h := by kernel_rfl
theorem s_judge_rounds_told_2 (X : Rn) (l : Nat) (t5 t7 t9 t10 t11 t20 : Value) (h : H) : sh X c_judge_rounds_told_2 (K_judge_rounds_told_2 X l) (setL [p5, p7, p9, p10, p11, p20] [t5, t7, t9, t10, t11, t20]) h =
    k2 (vField 1 t7 h) fun t21 h1 =>
    k2 (vLoad1 t21 h1) fun t22 h2 =>
    k2 (some (t11, h2)) fun t23 h3 =>
    k2 ((fillL [(.int .i64 0), (.int .i64 0)] [(0, 1, t22), (1, 1, t23)]).map fun c => (Value.agg ⟨c⟩, h3)) fun t24 h4 =>
    k2 (some (newPtr h4 [(.int .i64 0), (.int .i64 0)])) fun t12 h5 =>
    k2 (vStore 2 t12 t24 h5) fun _ h6 =>
    k2 (vLoad1 t5 h6) fun t26 h7 =>
    k2 (vLoadN 2 t12 h7) fun t27 h8 =>
    k2 (vLookup (.leaves [0, 1]) (.int .i64 0) true t26 t27 h8) fun t28 h9 =>
    k2 (some (t28, h9)) fun t25 h10 =>
    k2 (vExtract 0 t25 h10) fun t29 h11 =>
    k2 (vExtract 1 t25 h11) fun t30 h12 =>
    k2 (some (t29, h12)) fun t13 h13 =>
    k2 (some (t30, h13)) fun t14 h14 =>
    k2 (vLoadN 2 t12 h14) fun t31 h15 =>
    k2 (some (t11, h15)) fun t32 h16 =>
    k2 (some (t11, h16)) fun t33 h17 =>
    k2 ((fillL [(.int .i64 0), (.int .i64 0)] [(0, 1, t32), (1, 1, t33)]).map fun c => (Value.agg ⟨c⟩, h17)) fun t34 h18 =>
    k2 (vBin .eql (.leaves [0, 1]) t31 t34 h18) fun t35 h19 =>
    k2 (some (t35, h19)) fun t36 h20 =>
    k2 (gd t36 false h20 (some (t14, h20))) fun t37 h21 =>
    k2 (gd t36 false h21 (vUn .not t37 h21)) fun t38 h22 =>
    k2 (vPick t36 (.bool true) t38 h22) fun t39 h23 =>
    k2 (some (t39, h23)) fun t40 h24 =>
    k2 (gd t40 false h24 (some (t13, h24))) fun t41 h25 =>
    k2 (gd t40 false h25 (vLoad1 t9 h25)) fun t42 h26 =>
    k2 (gd t40 false h26 (vBin .gtr .other t41 t42 h26)) fun t43 h27 =>
    k2 (vPick t40 (.bool true) t43 h27) fun t44 h28 =>
    br t44
      (k2 (vStore 1 t10 (.bool false) h28) fun _ h29 =>
    fin l (some .ret) h29)
      (fin l none h28) := by kernel_rfl
theorem s_judge_rounds_told (X : Rn) (t0 t1 t2 t3 t4 : Value) (h : H) : shFunc X 5 f_judge_rounds_told [t0, t1, t2, t3, t4] h =
    k2 (some (newPtr h (cellsL t0))) fun t5 h1 =>
    k2 (some (newPtr h1 (cellsL t1))) fun t6 h2 =>
    k2 (some (newPtr h2 (cellsL t2))) fun t7 h3 =>
    k2 (some (newPtr h3 (cellsL t4))) fun t9 h4 =>
    k2 (some (newPtr h4 [(.bool false)])) fun t10 h5 =>
    k2 (vLoadN 3 t6 h5) fun t15 h6 =>
    k2 (some (t3, h6)) fun t16 h7 =>
    k2 (vField 2 t7 h7) fun t17 h8 =>
    k2 (vLoad1 t17 h8) fun t18 h9 =>
    k2 (X.call (.func (.func n_judge_leads) #[] #[]) [t15, t16, t18] h9) fun t19 h10 =>
    (isFn t19).bind fun fv => k2 (X.call fv [.func (.yield h10.next) #[] #[]] (h10.new (.loop .ready none (setL [p5, p7, p9, p10] [t5, t7, t9, t10]) r_judge_rounds_told_1))) fun _ h11 =>
    rgP h10.next h11 (fun h12 => sh X c_judge_rounds_told_0 (K_judge_rounds_told_0 X) (setL [p10] [t10]) h12) (fun i h12 => bx i 0 (sh X c_judge_rounds_told_0 (K_judge_rounds_told_0 X) (setL [p10] [t10]) h12) (none)) (fun h12 => (vRes none t10 h12).bind fun r0 => some (.val (tupleOf [r0]) h12)) := by kernel_rfl
theorem s_judge_leads_1_0 (X : Rn) (l : Nat) (t3 t4 t9 : Value) (h : H) : shRound X r_judge_leads_1_0 l [t9] (setL [p3, p4] [t3, t4]) h =
    k2 (some (newPtr h [(.int .i64 0), (.int .i64 0), (.int .i64 0)])) fun t5 h1 =>
    k2 (vStore 3 t5 t9 h1) fun _ h2 =>
    busyK l h2 fun h => sh X c_judge_leads_1_1 (K_judge_leads_1_1 X l) (setL [p3, p4, p5, p9] [t3, t4, t5, t9]) h := by kernel_rfl
theorem s_judge_leads_1_1 (X : Rn) (l : Nat) (t3 t4 t5 t9 : Value) (h : H) : sh X c_judge_leads_1_1 (K_judge_leads_1_1 X l) (setL [p3, p4, p5, p9] [t3, t4, t5, t9]) h =
    k2 (vField 2 t5 h) fun t10 h1 =>
    k2 (vLoad1 t10 h1) fun t11 h2 =>
    k2 (vLoad1 t3 h2) fun t12 h3 =>
    k2 (vBin .eql .other t11 t12 h3) fun t13 h4 =>
    k2 (some (t13, h4)) fun t14 h5 =>
    k2 (gd t14 true h5 (vLoad1 t4 h5)) fun t15 h6 =>
    k2 (gd t14 true h6 (vField 1 t5 h6)) fun t16 h7 =>
    k2 (gd t14 true h7 (vLoad1 t16 h7)) fun t17 h8 =>
    k2 (gd t14 true h8 (X.call t15 [t17] h8)) fun t18 h9 =>
    k2 (gd t14 true h9 (vUn .not t18 h9)) fun t19 h10 =>
    k2 (vPick t14 t19 (.bool false) h10) fun t20 h11 =>
    br t20
      (fin l (some .ret) h11)
      (fin l none h11) := by kernel_rfl
theorem s_judge_leads_1 (X : Rn) (t0 t1 t2 t3 : Value) (h : H) : shFunc X 4 f_judge_leads_1 [t0, t1, t2, t3] h =
    k2 (some (newPtr h (cellsL t0))) fun t4 h1 =>
    k2 (vLoadN 3 t1 h1) fun t6 h2 =>
    k2 (vLoad1 t2 h2) fun t7 h3 =>
    k2 (X.call (.func (.func n_judge_steps) #[] #[]) [t6, t7] h3) fun t8 h4 =>
    (isFn t8).bind fun fv => k2 (X.call fv [.func (.yield h4.next) #[] #[]] (h4.new (.loop .ready none (setL [p3, p4] [t3, t4]) r_judge_leads_1_0))) fun _ h5 =>
    rgP h4.next h5 (fun h6 => some (.val (tupleOf []) h6)) (fun i h6 => bx i 0 (some (.val (tupleOf []) h6)) (none)) (fun h6 => some (.val (tupleOf []) h6)) := by kernel_rfl

end Go.Ideal.J
end
namespace Go.Ideal.J
open Go Go.Ideal

abbrev edL (a : Int × Int × Int) : List Value := [.int .i64 a.1, .int .i64 a.2.1, .int .i64 a.2.2]
abbrev edV (a : Int × Int × Int) : Value := .agg ⟨edL a⟩
def lessE (a b : Int × Int × Int) : Bool := if a.1 ≠ b.1 then decide (a.1 < b.1) else if a.2.2 ≠ b.2.2 then decide (a.2.2 < b.2.2) else decide (a.2.1 < b.2.1)
def cmpE (a b : Int) : Int := if a < b then -1 else if b < a then 1 else 0

theorem less_ok (a b : Int × Int × Int) (h : H) : callI F (fnV n_cabotageref22_less) [edV a, edV b] h = some (.bool (lessE a b), (h.new (.cells (edL a) 0)).new (.cells (edL b) 0)) := by
  refine call_fn F_cabotageref22_less 2 (by decide) ?_
  rw [s_cabotageref22_less]
  by_cases h1 : a.1 = b.1
  · by_cases h2 : a.2.2 = b.2.2
    · simp [lessE, h1, h2]
    · simp [lessE, h1, h2]
  · simp [lessE, h1]
theorem isNaN_ok (a : Int) (h : H) : callI F (fnV n_cmp_isNaN_int_) [.int .i64 a] h = some (.bool false, h) := by
  refine call_fn F_cmp_isNaN_int_ 1 (by decide) ?_
  rw [s_cmp_isNaN_int_]
  simp
theorem compare_ok (a b : Int) (h : H) : callI F (fnV n_cmp_Compare_int_) [.int .i64 a, .int .i64 b] h = some (.int .i64 (cmpE a b), h) := by
  refine call_fn F_cmp_Compare_int_ 2 (by decide) ?_
  rw [s_cmp_Compare_int_]
  by_cases h1 : a < b
  · simp [isNaN_ok, cmpE, h1]
  · by_cases h2 : b < a
    · simp [isNaN_ok, cmpE, h1, h2]
    · simp [isNaN_ok, cmpE, h1, h2]
def orV (x y z : Int) : Int := if x ≠ 0 then x else if y ≠ 0 then y else z
theorem or_ok (x y z : Int) (h : H) (b : Nat) (hg : h.get b = some (.cells [.int .i64 x, .int .i64 y, .int .i64 z] 0)) : callI F (fnV n_cmp_Or_int_) [.slice (some ⟨b, 0, none⟩) 3 3] h = some (.int .i64 (orV x y z), h) := by
  refine call_fn F_cmp_Or_int_ 1 (by decide) ?_
  rw [s_cmp_Or_int_]
  simp
  refine l_cmp_Or_int__1 F _ _ _ _ _ ?_
  rw [s_cmp_Or_int__1]
  by_cases hx : x = 0
  · simp [hg, hx]
    refine l_cmp_Or_int__1 F _ _ _ _ _ ?_
    rw [s_cmp_Or_int__1]
    by_cases hy : y = 0
    · simp [hg, hy]
      refine l_cmp_Or_int__1 F _ _ _ _ _ ?_
      rw [s_cmp_Or_int__1]
      by_cases hz : z = 0
      · simp [hg, hz]
        refine l_cmp_Or_int__1 F _ _ _ _ _ ?_
        rw [s_cmp_Or_int__1]
        simp [s_cmp_Or_int__0, orV]
      · simp [hg, hz, orV]
    · simp [hg, hy, orV]
  · simp [hg, hx, orV]
def cmpT (a b : Int × Int × Int) : Int := orV (cmpE a.1 b.1) (cmpE a.2.2 b.2.2) (cmpE a.2.1 b.2.1)
theorem judge_compare_ok (a b : Int × Int × Int) (h : H) : callI F (fnV n_judge_compare) [edV a, edV b] h = some (.int .i64 (cmpT a b), ((h.new (.cells (edL a) 0)).new (.cells (edL b) 0)).new (.cells [.int .i64 (cmpE a.1 b.1), .int .i64 (cmpE a.2.2 b.2.2), .int .i64 (cmpE a.2.1 b.2.1)] 0)) := by
  refine call_fn F_judge_compare 2 (by decide) ?_
  rw [s_judge_compare]
  simp [compare_ok, fillL, repeatL]
  rw [or_ok (cmpE a.1 b.1) (cmpE a.2.2 b.2.2) (cmpE a.2.1 b.2.1) _ _ (by simp)]
  simp [cmpT]

abbrev gL (st lb : Int) (sl : Value) : List Value := [.int .i64 st, .int .i64 lb, sl]
abbrev gV (st lb : Int) (sl : Value) : Value := .agg ⟨gL st lb sl⟩
abbrev Ed := Int × Int × Int
def badE (st lb : Int) (x : Ed) : Bool := decide (x.1 < 0) || decide (st ≤ x.1) || decide (x.2.1 < 0) || decide (st ≤ x.2.1) || decide (x.2.2 < 0) || decide (lb ≤ x.2.2)
def okAt (st lb : Int) (es : List Ed) (i : Nat) : Bool := match es[i]? with
  | some x => !badE st lb x && (decide (i = 0) || match es[i - 1]? with | some y => lessE y x | none => true)
  | none => true
def ckN (st lb : Int) (es : List Ed) : Nat → Bool
  | 0 => true
  | n + 1 => okAt st lb es (es.length - (n + 1)) && ckN st lb es n
abbrev ptr (b : Nat) : Value := .pointer (some ⟨b, 0, none⟩)
def erk (b : Bool) : Value := .int .i64 (if b then 0 else 2)

theorem refCheck_loop (st lb : Int) (sl : Value) (es : List Ed) (hsz : es.length ≤ 9223372036854775806) (p : Nat) : ∀ (n i : Nat) (h : H), i + n = es.length → h.get p = some (.cells (gL st lb sl) 0) → p < h.next → Row h 3 sl (es.map edL) →
    ∃ h', lp (rI F) [p1, p3] c_cabotageref22_Check_1 (kBlk 0 (kSeq (rI F) c_cabotageref22_Check_0 [] (K_cabotageref22_Check_0 (rI F)))) [ptr p, .int .i64 (i : Int)] h = some (.val (erk (ckN st lb es n)) h') ∧ Fr h h'
  | 0, i, h, hi, hp, hlt, hrow => by
    obtain ⟨base, c, rfl⟩ := hrow.len
    refine ⟨h, l_cabotageref22_Check_1 F _ _ _ ?_, .refl _⟩
    rw [s_cabotageref22_Check_1]
    have hi' : (es.length : Int) = i := by omega
    simp [hp, hi', s_cabotageref22_Check_0, ckN, erk]
  | n + 1, i, h, hi, hp, hlt, hrow => by
    have hil : i < es.length := by omega
    have hx : (es.map edL)[i]? = some (edL es[i]) := by simp [hil]
    obtain ⟨b, o, cs, e, hv, hb, hg, ht⟩ := hrow.index hx
    have hlen : (es.map edL).length = es.length := List.length_map _
    have n0 : ¬ h.next = b := by omega
    have n1 : ¬ h.next = p := by omega
    have n3 : ¬ h.next + 1 = p := by omega
    have n4 : ¬ h.next + 1 + 1 = p := by omega
    have hsub : es.length - (n + 1) = i := by omega
    have hil' : (i : Int) < es.length := by omega
    generalize hxe : es[i] = x at *
    obtain ⟨base, c, hsl⟩ := hrow.len
    have hbad : badE st lb x = true → ckN st lb es (n + 1) = false := by
      intro hb'
      simp [ckN, hsub, okAt, hil, hxe, hb']
    have key : ∀ r, sh (rI F) c_cabotageref22_Check_1 (K_cabotageref22_Check_1 (rI F)) (setL [p1, p3] [ptr p, .int .i64 (i : Int)]) h = some r → lp (rI F) [p1, p3] c_cabotageref22_Check_1 (kBlk 0 (kSeq (rI F) c_cabotageref22_Check_0 [] (K_cabotageref22_Check_0 (rI F)))) [ptr p, .int .i64 (i : Int)] h = some r := fun r hr => l_cabotageref22_Check_1 F _ _ _ hr
    have hp' := hp
    have hv' := hv
    subst hsl
    rw [hlen] at hp hv
    by_cases h1 : x.1 < 0
    · refine ⟨h.new (.cells (edL x) 0), key _ ?_, .new _ _⟩
      rw [s_cabotageref22_Check_1, hbad (by simp [badE, h1])]
      simp [hp, hil', hv, hg, ht, n0, n1, h1, erk]
    by_cases h2 : st ≤ x.1
    · refine ⟨h.new (.cells (edL x) 0), key _ ?_, .new _ _⟩
      rw [s_cabotageref22_Check_1, hbad (by simp [badE, h2])]
      simp [hp, hil', hv, hg, ht, n0, n1, h1, h2, erk]
    by_cases h3 : x.2.1 < 0
    · refine ⟨h.new (.cells (edL x) 0), key _ ?_, .new _ _⟩
      rw [s_cabotageref22_Check_1, hbad (by simp [badE, h3])]
      simp [hp, hil', hv, hg, ht, n0, n1, h1, h2, h3, erk]
    by_cases h4 : st ≤ x.2.1
    · refine ⟨h.new (.cells (edL x) 0), key _ ?_, .new _ _⟩
      rw [s_cabotageref22_Check_1, hbad (by simp [badE, h4])]
      simp [hp, hil', hv, hg, ht, n0, n1, h1, h2, h3, h4, erk]
    by_cases h5 : x.2.2 < 0
    · refine ⟨h.new (.cells (edL x) 0), key _ ?_, .new _ _⟩
      rw [s_cabotageref22_Check_1, hbad (by simp [badE, h5])]
      simp [hp, hil', hv, hg, ht, n0, n1, h1, h2, h3, h4, h5, erk]
    by_cases h6 : lb ≤ x.2.2
    · refine ⟨h.new (.cells (edL x) 0), key _ ?_, .new _ _⟩
      rw [s_cabotageref22_Check_1, hbad (by simp [badE, h6])]
      simp [hp, hil', hv, hg, ht, n0, n1, h1, h2, h3, h4, h5, h6, erk]
    have hgood : badE st lb x = false := by simp [badE, h1, h2, h3, h4, h5, h6]
    have hadd : (i : Int) + 1 = ((i + 1 : Nat) : Int) := by omega
    have w1 : -9223372036854775808 ≤ (i : Int) + 1 := by omega
    have w2 : (i : Int) + 1 ≤ 9223372036854775807 := by omega
    by_cases hi0 : i = 0
    · have hz : ¬ 0 < i := by omega
      obtain ⟨h', he, hf⟩ := refCheck_loop st lb _ es hsz p n (i + 1) (h.new (.cells (edL x) 0)) (by omega) (by simp [hp', n1]) (by simp; omega) (hrow.fr (.new _ _))
      refine ⟨h', key _ ?_, (Fr.new _ _).trans hf⟩
      have e0 : es[i]? = some x := by simp [hil, hxe]
      have hck : ckN st lb es (n + 1) = ckN st lb es n := by
        show (okAt st lb es (es.length - (n + 1)) && _) = _
        rw [hsub]; unfold okAt; rw [e0]; simp [hgood, hi0]
      rw [s_cabotageref22_Check_1, hck]
      simp [hp, hil', hv, hg, ht, n0, n1, h1, h2, h3, h4, h5, h6, hz, w1, w2]
      simpa using he
    · have hy : (es.map edL)[i - 1]? = some (edL es[i - 1]) := by simp [show i - 1 < es.length by omega]
      obtain ⟨b2, o2, cs2, e2, hv2, hb2, hg2, ht2⟩ := hrow.index hy
      have hye : es[i - 1]? = some es[i - 1] := by simp [show i - 1 < es.length by omega]
      generalize es[i - 1] = y at *
      have n2 : ¬ h.next = b2 := by omega
      have hpred : (i : Int) - 1 = ((i - 1 : Nat) : Int) := by omega
      have w3 : -9223372036854775808 ≤ (i : Int) - 1 := by omega
      have w4 : (i : Int) - 1 ≤ 9223372036854775807 := by omega
      have hsubv : ∀ h', vBin .sub .other (.int .i64 (i : Int)) (.int .i64 1) h' = some (.int .i64 ((i - 1 : Nat) : Int), h') := fun h' => by rw [i64_sub w3 w4, hpred]
      have hpos : 0 < i := by omega
      rw [hlen] at hv2
      have hck : ckN st lb es (n + 1) = (lessE y x && ckN st lb es n) := by simp [ckN, hsub, okAt, hil, hxe, hgood, hi0, hye]
      by_cases hl : lessE y x = true
      · obtain ⟨h', he, hf⟩ := refCheck_loop st lb _ es hsz p n (i + 1) (((h.new (.cells (edL x) 0)).new (.cells (edL y) 0)).new (.cells (edL x) 0)) (by omega) (by simp [hp', n1, n3, n4]) (by simp; omega) (hrow.fr (((Fr.new _ _).newR _).newR _))
        refine ⟨h', key _ ?_, (((Fr.new _ _).newR _).newR _).trans hf⟩
        rw [s_cabotageref22_Check_1, hck, hl, Bool.true_and]
        simp [hp, hil', hv, hg, ht, n0, n1, n2, h1, h2, h3, h4, h5, h6, hpos, w1, w2, hsubv, hv2, hg2, ht2, less_ok, hl]
        simpa using he
      · have hl : lessE y x = false := by simpa using hl
        refine ⟨_, key _ ?_, ((Fr.new h (.cells (edL x) 0)).newR (.cells (edL y) 0)).newR (.cells (edL x) 0)⟩
        rw [s_cabotageref22_Check_1, hck, hl, Bool.false_and]
        simp [hp, hil', hv, hg, ht, n0, n1, n2, h1, h2, h3, h4, h5, h6, hpos, w1, w2, hsubv, hv2, hg2, ht2, less_ok, hl, erk]
end Go.Ideal.J
namespace Go.Ideal.J
open Go Go.Ideal
def chk (st lb : Int) (es : List Ed) : Bool := !(decide (st < 1) || decide (60 < st) || decide (lb < 1) || decide (41 < lb) || decide (400 < es.length)) && ckN st lb es es.length

theorem refCheck_ok (st lb : Int) (sl : Value) (es : List Ed) (h : H) (hrow : Row h 3 sl (es.map edL)) : ∃ h', callI F (fnV n_cabotageref22_Check) [gV st lb sl] h = some (erk (chk st lb es), h') ∧ Fr h h' := by
  obtain ⟨base, c, hsl⟩ := hrow.len
  have hlen : (es.map edL).length = es.length := List.length_map _
  rw [hlen] at hsl
  by_cases h1 : st < 1
  · refine ⟨_, call_fn F_cabotageref22_Check 1 (by decide) ?_, .new h (.cells (gL st lb sl) 0)⟩
    rw [s_cabotageref22_Check]; subst hsl
    simp [h1, chk, erk]
  by_cases h2 : 60 < st
  · refine ⟨_, call_fn F_cabotageref22_Check 1 (by decide) ?_, .new h (.cells (gL st lb sl) 0)⟩
    rw [s_cabotageref22_Check]; subst hsl
    simp [h1, h2, chk, erk]
  by_cases h3 : lb < 1
  · refine ⟨_, call_fn F_cabotageref22_Check 1 (by decide) ?_, .new h (.cells (gL st lb sl) 0)⟩
    rw [s_cabotageref22_Check]; subst hsl
    simp [h1, h2, h3, chk, erk]
  by_cases h4 : 41 < lb
  · refine ⟨_, call_fn F_cabotageref22_Check 1 (by decide) ?_, .new h (.cells (gL st lb sl) 0)⟩
    rw [s_cabotageref22_Check]; subst hsl
    simp [h1, h2, h3, h4, chk, erk]
  by_cases h5 : 400 < es.length
  · refine ⟨_, call_fn F_cabotageref22_Check 1 (by decide) ?_, .new h (.cells (gL st lb sl) 0)⟩
    rw [s_cabotageref22_Check]; subst hsl
    have h5' : (400 : Int) < es.length := by omega
    simp [h1, h2, h3, h4, h5, h5', chk, erk]
  obtain ⟨h', he, hf⟩ := refCheck_loop st lb sl es (by omega) h.next es.length 0 (h.new (.cells (gL st lb sl) 0)) (by omega) (by simp) (by simp) (hrow.fr (.new _ _))
  refine ⟨h', call_fn F_cabotageref22_Check 1 (by decide) ?_, (Fr.new _ _).trans hf⟩
  rw [s_cabotageref22_Check]; subst hsl
  have h5' : ¬ (400 : Int) < es.length := by omega
  have hc : chk st lb es = ckN st lb es es.length := by simp [chk, h1, h2, h3, h4, h5]
  rw [hc]
  simp [h1, h2, h3, h4, h5, h5']
  simpa using he
end Go.Ideal.J
namespace Go.Ideal.J
open Go Go.Ideal
end Go.Ideal.J
namespace Go.Ideal.J
open Go Go.Ideal
theorem min3 (a b c : Int) (h : H) : bltV h .min [.int .i64 a, .int .i64 b, .int .i64 c] = some (.int .i64 (min a (min b c)), h) := by
  show (minmax false (.int .i64 a) [.int .i64 b, .int .i64 c]).map (·, h) = _
  by_cases h1 : b < a
  · by_cases h2 : c < b
    · simp [minmax, ltI_eq, h1, h2]; omega
    · simp [minmax, ltI_eq, h1, h2]; omega
  · by_cases h2 : c < a
    · simp [minmax, ltI_eq, h1, h2]; omega
    · simp [minmax, ltI_eq, h1, h2]; omega
theorem max2 (a b : Int) (h : H) : bltV h .max [.int .i64 a, .int .i64 b] = some (.int .i64 (max a b), h) := by
  show (minmax true (.int .i64 a) [.int .i64 b]).map (·, h) = _
  by_cases h1 : a < b
  · simp [minmax, ltI_eq, h1]; omega
  · simp [minmax, ltI_eq, h1]; omega
theorem cmpT_less (y x : Ed) : (0 ≤ cmpT y x) ↔ lessE y x = false := by
  obtain ⟨y1, y2, y3⟩ := y
  obtain ⟨x1, x2, x3⟩ := x
  unfold cmpT lessE orV cmpE
  dsimp only
  repeat' split
  all_goals (simp; try omega)

theorem judgeCheck_loop (st lb : Int) (sl : Value) (es : List Ed) (hsz : es.length ≤ 9223372036854775806) (p : Nat) : ∀ (n i : Nat) (h : H), i + n = es.length → h.get p = some (.cells (gL st lb sl) 0) → p < h.next → Row h 3 sl (es.map edL) →
    ∃ h', lp (rI F) [p1, p30, p31, p32] c_judge_Check_1 (kBlk 0 (kSeq (rI F) c_judge_Check_0 [] (K_judge_Check_0 (rI F)))) [ptr p, sl, .int .i64 (es.length : Int), .int .i64 (i : Int)] h = some (.val (erk (ckN st lb es n)) h') ∧ Fr h h'
  | 0, i, h, hi, hp, hlt, hrow => by
    refine ⟨h, l_judge_Check_1 F _ _ _ _ _ ?_, .refl _⟩
    rw [s_judge_Check_1]
    have hi' : (es.length : Int) = i := by omega
    simp [hi', s_judge_Check_0, ckN, erk]
  | n + 1, i, h, hi, hp, hlt, hrow => by
    have hil : i < es.length := by omega
    have hx : (es.map edL)[i]? = some (edL es[i]) := by simp [hil]
    obtain ⟨b, o, cs, e, hv, hb, hg, ht⟩ := hrow.index hx
    have hlen : (es.map edL).length = es.length := List.length_map _
    have n0 : ¬ h.next = b := by omega
    have n1 : ¬ h.next = p := by omega
    have n3 : ¬ h.next + 1 = p := by omega
    have n4 : ¬ h.next + 1 + 1 = p := by omega
    have n5 : ¬ h.next + 1 + 1 + 1 = p := by omega
    have hsub : es.length - (n + 1) = i := by omega
    have hil' : (i : Int) < es.length := by omega
    have e0 : es[i]? = some es[i] := by simp [hil]
    generalize es[i] = x at *
    obtain ⟨base, c, hsl⟩ := hrow.len
    rw [hlen] at hsl
    have hbad : badE st lb x = true → ckN st lb es (n + 1) = false := by
      intro hb'
      show (okAt st lb es (es.length - (n + 1)) && _) = _
      rw [hsub]; unfold okAt; rw [e0]; simp [hb']
    have key : ∀ r, sh (rI F) c_judge_Check_1 (K_judge_Check_1 (rI F)) (setL [p1, p30, p31, p32] [ptr p, sl, .int .i64 (es.length : Int), .int .i64 (i : Int)]) h = some r → lp (rI F) [p1, p30, p31, p32] c_judge_Check_1 (kBlk 0 (kSeq (rI F) c_judge_Check_0 [] (K_judge_Check_0 (rI F)))) [ptr p, sl, .int .i64 (es.length : Int), .int .i64 (i : Int)] h = some r := fun r hr => l_judge_Check_1 F _ _ _ _ _ hr
    have hp' := hp
    have hslc := hsl
    subst hsl
    by_cases h1 : min x.1 (min x.2.1 x.2.2) < 0
    · refine ⟨h.new (.cells (edL x) 0), key _ ?_, .new _ _⟩
      rw [s_judge_Check_1, hbad (by simp only [badE, Bool.or_eq_true, decide_eq_true_eq]; omega)]
      simp [hp, hil, hv, hg, ht, n0, n1, min3, max2, h1, erk]
    by_cases h2 : st ≤ max x.1 x.2.1
    · refine ⟨h.new (.cells (edL x) 0), key _ ?_, .new _ _⟩
      rw [s_judge_Check_1, hbad (by simp only [badE, Bool.or_eq_true, decide_eq_true_eq]; omega)]
      simp [hp, hil, hv, hg, ht, n0, n1, min3, max2, h1, h2, erk]
    by_cases h3 : lb ≤ x.2.2
    · refine ⟨h.new (.cells (edL x) 0), key _ ?_, .new _ _⟩
      rw [s_judge_Check_1, hbad (by simp only [badE, Bool.or_eq_true, decide_eq_true_eq]; omega)]
      simp [hp, hil, hv, hg, ht, n0, n1, min3, max2, h1, h2, h3, erk]
    have hgood : badE st lb x = false := by
      rw [Bool.eq_false_iff]; intro hb'; simp only [badE, Bool.or_eq_true, decide_eq_true_eq] at hb'; omega
    have w1 : -9223372036854775808 ≤ (i : Int) + 1 := by omega
    have w2 : (i : Int) + 1 ≤ 9223372036854775807 := by omega
    by_cases hi0 : i = 0
    · have hz : ¬ 0 < i := by omega
      obtain ⟨h', he, hf⟩ := judgeCheck_loop st lb _ es hsz p n (i + 1) (h.new (.cells (edL x) 0)) (by omega) (by simp [hp', n1]) (by simp; omega) (hrow.fr (.new _ _))
      refine ⟨h', key _ ?_, (Fr.new _ _).trans hf⟩
      have hck : ckN st lb es (n + 1) = ckN st lb es n := by
        show (okAt st lb es (es.length - (n + 1)) && _) = _
        rw [hsub]; unfold okAt; rw [e0]; simp [hgood, hi0]
      rw [s_judge_Check_1, hck]
      simp [hp, hil, hv, hg, ht, n0, n1, min3, max2, h1, h2, h3, hz, w1, w2]
      simpa using he
    · have hy : (es.map edL)[i - 1]? = some (edL es[i - 1]) := by simp [show i - 1 < es.length by omega]
      obtain ⟨b2, o2, cs2, e2, hv2, hb2, hg2, ht2⟩ := hrow.index hy
      have hye : es[i - 1]? = some es[i - 1] := by simp [show i - 1 < es.length by omega]
      generalize es[i - 1] = y at *
      have n2 : ¬ h.next = b2 := by omega
      have hpred : (i : Int) - 1 = ((i - 1 : Nat) : Int) := by omega
      have w3 : -9223372036854775808 ≤ (i : Int) - 1 := by omega
      have w4 : (i : Int) - 1 ≤ 9223372036854775807 := by omega
      have hsubv : ∀ h', vBin .sub .other (.int .i64 (i : Int)) (.int .i64 1) h' = some (.int .i64 ((i - 1 : Nat) : Int), h') := fun h' => by rw [i64_sub w3 w4, hpred]
      have hpos : 0 < i := by omega
      have hck : ckN st lb es (n + 1) = (lessE y x && ckN st lb es n) := by
        show (okAt st lb es (es.length - (n + 1)) && _) = _
        rw [hsub]; unfold okAt; rw [e0, hye]; simp [hgood, hi0]
      by_cases hl : lessE y x = true
      · have hc : ¬ 0 ≤ cmpT y x := fun hc => by rw [(cmpT_less y x).1 hc] at hl; cases hl
        obtain ⟨h', he, hf⟩ := judgeCheck_loop st lb _ es hsz p n (i + 1) ((((h.new (.cells (edL x) 0)).new (.cells (edL y) 0)).new (.cells (edL x) 0)).new (.cells [.int .i64 (cmpE y.1 x.1), .int .i64 (cmpE y.2.2 x.2.2), .int .i64 (cmpE y.2.1 x.2.1)] 0)) (by omega) (by simp [hp', n1, n3, n4, n5]) (by simp; omega) (hrow.fr ((((Fr.new _ _).newR _).newR _).newR _))
        refine ⟨h', key _ ?_, ((((Fr.new _ _).newR _).newR _).newR _).trans hf⟩
        rw [s_judge_Check_1, hck, hl, Bool.true_and]
        simp [hp, hil, hv, hg, ht, n0, n1, n2, min3, max2, h1, h2, h3, hpos, w1, w2, hsubv, hv2, hg2, ht2, judge_compare_ok, hc]
        simpa using he
      · have hl : lessE y x = false := by simpa using hl
        have hc : 0 ≤ cmpT y x := (cmpT_less y x).2 hl
        refine ⟨_, key _ ?_, (((Fr.new h (.cells (edL x) 0)).newR (.cells (edL y) 0)).newR (.cells (edL x) 0)).newR (.cells [.int .i64 (cmpE y.1 x.1), .int .i64 (cmpE y.2.2 x.2.2), .int .i64 (cmpE y.2.1 x.2.1)] 0)⟩
        rw [s_judge_Check_1, hck, hl, Bool.false_and]
        simp [hp, hil, hv, hg, ht, n0, n1, n2, min3, max2, h1, h2, h3, hpos, w1, w2, hsubv, hv2, hg2, ht2, judge_compare_ok, hc, erk]

theorem judgeCheck_ok (st lb : Int) (sl : Value) (es : List Ed) (h : H) (hrow : Row h 3 sl (es.map edL)) : ∃ h', callI F (fnV n_judge_Check) [gV st lb sl] h = some (erk (chk st lb es), h') ∧ Fr h h' := by
  obtain ⟨base, c, hsl⟩ := hrow.len
  have hlen : (es.map edL).length = es.length := List.length_map _
  rw [hlen] at hsl
  by_cases h1 : st < 1
  · refine ⟨_, call_fn F_judge_Check 1 (by decide) ?_, .new h (.cells (gL st lb sl) 0)⟩
    rw [s_judge_Check]; subst hsl
    simp [h1, chk, erk]
  by_cases h2 : 60 < st
  · refine ⟨_, call_fn F_judge_Check 1 (by decide) ?_, .new h (.cells (gL st lb sl) 0)⟩
    rw [s_judge_Check]; subst hsl
    simp [h1, h2, chk, erk]
  by_cases h3 : lb < 1
  · refine ⟨_, call_fn F_judge_Check 1 (by decide) ?_, .new h (.cells (gL st lb sl) 0)⟩
    rw [s_judge_Check]; subst hsl
    simp [h1, h2, h3, chk, erk]
  by_cases h4 : 41 < lb
  · refine ⟨_, call_fn F_judge_Check 1 (by decide) ?_, .new h (.cells (gL st lb sl) 0)⟩
    rw [s_judge_Check]; subst hsl
    simp [h1, h2, h3, h4, chk, erk]
  by_cases h5 : 400 < es.length
  · refine ⟨_, call_fn F_judge_Check 1 (by decide) ?_, .new h (.cells (gL st lb sl) 0)⟩
    rw [s_judge_Check]; subst hsl
    have h5' : (400 : Int) < es.length := by omega
    simp [h1, h2, h3, h4, h5, h5', chk, erk]
  obtain ⟨h', he, hf⟩ := judgeCheck_loop st lb sl es (by omega) h.next es.length 0 (h.new (.cells (gL st lb sl) 0)) (by omega) (by simp) (by simp) (hrow.fr (.new _ _))
  refine ⟨h', call_fn F_judge_Check 1 (by decide) ?_, (Fr.new _ _).trans hf⟩
  rw [s_judge_Check]; subst hsl
  have h5' : ¬ (400 : Int) < es.length := by omega
  have hc : chk st lb es = ckN st lb es es.length := by simp [chk, h1, h2, h3, h4, h5]
  rw [hc]
  simp [h1, h2, h3, h4, h5, h5']
  simpa using he
end Go.Ideal.J
namespace Go.Ideal.J
open Go Go.Ideal
abbrev boolsL (bs : List Bool) : List Value := bs.map .bool
abbrev slF (q n : Nat) : Value := .slice (some ⟨q, 0, none⟩) n n
def inB (st : Int) (es : List Ed) : Prop := ∀ x ∈ es, 0 ≤ x.1 ∧ x.1 < st ∧ 0 ≤ x.2.1 ∧ x.2.1 < st

end Go.Ideal.J
namespace Go.Ideal.J
open Go Go.Ideal
end Go.Ideal.J
namespace Go.Ideal.J
open Go Go.Ideal
inductive Sil (es : List Ed) (a : Nat) : Nat → Prop
  | refl : Sil es a a
  | step {x : Ed} (h : Sil es a x.1.toNat) (hx : x ∈ es) (h0 : x.2.2 = 0) : Sil es a x.2.1.toNat

end Go.Ideal.J
set_option linter.unusedSimpArgs false
set_option linter.unusedVariables false
set_option maxRecDepth 10000
namespace Go.Ideal.J
open Go Go.Ideal

theorem conv_u64 {a : Int} {h : H} (h0 : 0 ≤ a) (h1 : a ≤ 9223372036854775807) : vConv .u64 (.int .i64 a) h = some (.int .u64 a, h) := by
  show some (Value.int .u64 (IntKind.wrap .u64 a), h) = _
  have : IntKind.wrap .u64 a = a := by
    unfold IntKind.wrap
    show (if (false && decide (a % (2 ^ 64 : Int) ≥ (2 ^ 63 : Int))) = true then a % (2 ^ 64 : Int) - (2 ^ 64 : Int) else a % (2 ^ 64 : Int)) = a
    simp; omega
  rw [this]
theorem conv_i64 {k : IntKind} {a : Int} {h : H} (h0 : -9223372036854775808 ≤ a) (h1 : a ≤ 9223372036854775807) : vConv .i64 (.int k a) h = some (.int .i64 a, h) := by
  show some (Value.int .i64 (IntKind.wrap .i64 a), h) = _
  have := wrapF_in h0 h1
  rw [wrapF_eq] at this; rw [this]
theorem shr1 {ek : EK} {k : IntKind} {a : Int} {h : H} : vBin .shr ek (.int k a) (.int .u64 1) h = some (.int k (a / 2), h) := by
  have : (2 : Int) ^ (min (1 : Int).toNat k.bits) = 2 := by cases k <;> rfl
  show (if ltI 1 0 then none else some (Value.int k (a.fdiv (2 ^ (min (1 : Int).toNat k.bits))))).map (·, h) = _
  rw [this]
  have h2 : ltI 1 0 = false := rfl
  rw [h2, Int.fdiv_eq_ediv_of_nonneg _ (by omega)]; rfl

theorem steps_cmp_ok (x : Ed) (a : Int) (h : H) : callI F (fnV n_judge_steps_1_1) [edV x, .int .i64 a] h = some (.int .i64 (cmpE x.1 a), h.new (.cells (edL x) 0)) := by
  refine call_fn F_judge_steps_1_1 2 (by decide) ?_
  rw [s_judge_steps_1_1]
  simp [compare_ok]
theorem cmpE_neg (a b : Int) : cmpE a b < 0 ↔ a < b := by unfold cmpE; split <;> (try split) <;> omega
/-- the first edge that is not below. -/
structure Cut (es : List Ed) (a : Int) (at_ : Nat) : Prop where
  le : at_ ≤ es.length
  lo : ∀ k x, es[k]? = some x → k < at_ → x.1 < a
  hi : ∀ k x, es[k]? = some x → at_ ≤ k → a ≤ x.1

def IsAt (n : Nat) (v : Value) : Prop := ∃ b : Bool, v = .tuple #[.int .i64 (n : Int), .bool b]
theorem bs_loop (es : List Ed) (hsz : es.length ≤ 1000) (a : Int) (at_ : Nat) (hc : Cut es a at_) (sl : Value) (h0 : H) (hrow0 : Row h0 3 sl (es.map edL)) : ∀ (n i j : Nat) (h : H), j - i = n → i ≤ at_ → at_ ≤ j → j ≤ es.length → Fr h0 h →
    OkV (sh (rI F) c_slices_BinarySearchFunc_api_JudgeEdge_api_JudgeEdge_int__1 (K_slices_BinarySearchFunc_api_JudgeEdge_api_JudgeEdge_int__1 (rI F)) (setL [p0, p1, p2, p8, p9, p10] [sl, .int .i64 a, fnV n_judge_steps_1_1, .int .i64 (es.length : Int), .int .i64 (i : Int), .int .i64 (j : Int)]) h)
      fun v h' => IsAt at_ v ∧ Fr h0 h' := by
  intro n
  induction n using Nat.strongRecOn with
  | _ n ih =>
    intro i j h hn hi hj hl hf
    rw [s_slices_BinarySearchFunc_api_JudgeEdge_api_JudgeEdge_int__1]
    by_cases hij : i < j
    · obtain ⟨m, em⟩ : ∃ m, m = (i + j) / 2 := ⟨_, rfl⟩
      have hm : m < es.length := by omega
      have hx : (es.map edL)[m]? = some (edL es[m]) := by simp [hm]
      obtain ⟨b, o, cs, e, hv, hb, hg, ht⟩ := (hrow0.fr hf).index hx
      have hlo := hc.lo m _ (List.getElem?_eq_getElem hm)
      have hhi := hc.hi m _ (List.getElem?_eq_getElem hm)
      have e1 : ((i : Int) + (j : Int)) / 2 = (m : Int) := by omega
      generalize es[m] = x at *
      by_cases hxa : x.1 < a
      · have hxa' : cmpE x.1 a < 0 := (cmpE_neg _ _).2 hxa
        have := ih (j - (m + 1)) (by omega) (m + 1) j (h.new (.cells (edL x) 0)) rfl (by have := fun h => hhi h; omega) hj hl (hf.newR _)
        refine OkV.eq (this.lp (l_slices_BinarySearchFunc_api_JudgeEdge_api_JudgeEdge_int__1 F _ _ _ _ _ _ _)) ?_
        simp (disch := omega) [hij, conv_u64, conv_i64, shr1, e1, hv, hg, ht, steps_cmp_ok, hxa', i64_add]
      · have hxa' : ¬ cmpE x.1 a < 0 := fun h => hxa ((cmpE_neg _ _).1 h)
        have := ih (m - i) (by omega) i m (h.new (.cells (edL x) 0)) rfl hi (by have := fun h => hlo h; omega) (by omega) (hf.newR _)
        refine OkV.eq (this.lp (l_slices_BinarySearchFunc_api_JudgeEdge_api_JudgeEdge_int__1 F _ _ _ _ _ _ _)) ?_
        simp (disch := omega) [hij, conv_u64, conv_i64, shr1, e1, hv, hg, ht, steps_cmp_ok, hxa', i64_add]
    · have e : at_ = i := by omega
      subst e
      have e2 : j = at_ := by omega
      subst e2
      simp (disch := omega) [hij]
      rw [s_slices_BinarySearchFunc_api_JudgeEdge_api_JudgeEdge_int__0]
      by_cases hlt : j < es.length
      · have hx : (es.map edL)[j]? = some (edL es[j]) := by simp [hlt]
        obtain ⟨b, o, cs, e, hv, hb, hg, ht⟩ := (hrow0.fr hf).index hx
        refine OkV.eq (OkV.val (v := .tuple #[.int .i64 (j : Int), .bool (decide (cmpE es[j].1 a = 0))]) (h := h.new (.cells (edL es[j]) 0)) ⟨⟨_, rfl⟩, hf.newR _⟩) ?_
        simp (disch := omega) [hlt, hv, hg, ht, steps_cmp_ok]
      · refine OkV.eq (OkV.val (v := .tuple #[.int .i64 (j : Int), .bool false]) (h := h) ⟨⟨_, rfl⟩, hf⟩) ?_
        simp (disch := omega) [hlt]
end Go.Ideal.J
set_option linter.unusedSimpArgs false
set_option linter.unusedVariables false
set_option maxRecDepth 10000
namespace Go.Ideal.J
open Go Go.Ideal

theorem bs_ok (es : List Ed) (hsz : es.length ≤ 1000) (a : Int) (at_ : Nat) (hc : Cut es a at_) (sl : Value) (h : H) (hrow : Row h 3 sl (es.map edL)) :
    Ret F (fnV n_slices_BinarySearchFunc_api_JudgeEdge_api_JudgeEdge_int_) [sl, .int .i64 a, fnV n_judge_steps_1_1] h fun v h' => IsAt at_ v ∧ Fr h h' := by
  refine Ret.fn F_slices_BinarySearchFunc_api_JudgeEdge_api_JudgeEdge_int_ 3 (by decide) ?_
  rw [s_slices_BinarySearchFunc_api_JudgeEdge_api_JudgeEdge_int_]
  have := bs_loop es hsz a at_ hc sl h hrow es.length 0 es.length h (by omega) (by omega) hc.le (by omega) (.refl _)
  obtain ⟨base, c, hsl⟩ := hrow.len
  rw [List.length_map] at hsl
  refine OkV.eq (this.lp (l_slices_BinarySearchFunc_api_JudgeEdge_api_JudgeEdge_int__1 F _ _ _ _ _ _ _)) ?_
  subst hsl
  simp

end Go.Ideal.J
set_option linter.unusedSimpArgs false
set_option linter.unusedVariables false
set_option maxRecDepth 10000
namespace Go.Ideal.J
open Go Go.Ideal

/-- the edges of a state. -/
def outs (es : List Ed) (a : Int) : List Ed := es.filter fun x => decide (x.1 = a)
def SortedF (es : List Ed) : Prop := es.Pairwise fun x y => x.1 ≤ y.1
/-- how many edges lie below. -/
def below (es : List Ed) (a : Int) : Nat := (es.filter fun x => decide (x.1 < a)).length
theorem sorted_split (a : Int) : ∀ {es : List Ed}, SortedF es → es = (es.filter fun x => decide (x.1 < a)) ++ outs es a ++ es.filter fun x => decide (a < x.1)
  | [], _ => rfl
  | x :: es, h => by
    obtain ⟨h1, h2⟩ := List.pairwise_cons.1 h
    have ih := sorted_split a h2
    rcases Int.lt_trichotomy x.1 a with c | c | c
    · have e1 : ¬ x.1 = a := by omega
      have e2 : ¬ a < x.1 := by omega
      simp only [outs, List.filter_cons, c, e1, e2, decide_true, decide_false, if_true, Bool.false_eq_true, if_false, List.cons_append] at ih ⊢
      rw [← ih]
    · have e1 : ¬ x.1 < a := by omega
      have e2 : ¬ a < x.1 := by omega
      have z : (es.filter fun x => decide (x.1 < a)) = [] := by
        rw [List.filter_eq_nil_iff]; intro y hy; have := h1 y hy; simp; omega
      simp only [outs, List.filter_cons, c, decide_true, if_true] at ih ⊢
      rw [z, List.nil_append] at ih
      simp only [Int.lt_irrefl, decide_false, Bool.false_eq_true, if_false, z, List.nil_append, List.cons_append]
      rw [← ih]
    · have e1 : ¬ x.1 < a := by omega
      have e2 : ¬ x.1 = a := by omega
      have z : (es.filter fun x => decide (x.1 < a)) = [] := by
        rw [List.filter_eq_nil_iff]; intro y hy; have := h1 y hy; simp; omega
      have z2 : (es.filter fun x => decide (x.1 = a)) = [] := by
        rw [List.filter_eq_nil_iff]; intro y hy; have := h1 y hy; simp; omega
      have z3 : (es.filter fun x => decide (a < x.1)) = es := by
        rw [List.filter_eq_self]; intro y hy; have := h1 y hy; simp; omega
      simp only [outs, List.filter_cons, e1, e2, c, decide_true, decide_false, if_true, Bool.false_eq_true, if_false, z, z2, z3, List.nil_append]
theorem cut_of {es : List Ed} (h : SortedF es) (a : Int) : Cut es a (below es a) := by
  refine ⟨List.length_filter_le .., fun k x hk hl => ?_, fun k x hk hl => ?_⟩
  · rw [sorted_split a h, List.append_assoc, List.getElem?_append_left hl] at hk
    simpa using (List.mem_filter.1 (List.mem_of_getElem? hk)).2
  · rw [sorted_split a h, List.append_assoc, List.getElem?_append_right hl] at hk
    have := List.mem_of_getElem? hk
    rcases List.mem_append.1 this with hm | hm
    · have := (List.mem_filter.1 hm).2; simp at this; omega
    · have := (List.mem_filter.1 hm).2; simp at this; omega
theorem drop_below {es : List Ed} (h : SortedF es) (a : Int) : es.drop (below es a) = outs es a ++ es.filter fun x => decide (a < x.1) := by
  have e := sorted_split a h
  have : es.drop (below es a) = ((es.filter fun x => decide (x.1 < a)) ++ (outs es a ++ es.filter fun x => decide (a < x.1))).drop (es.filter fun x => decide (x.1 < a)).length := by
    rw [← List.append_assoc, ← e]; rfl
  rw [this, List.drop_left]

/-- what a yield is asked: for each element in order. -/
def YOk (F : FuncId → Option CFunc) (y : Value) (l : List Value) (M : Nat → Prop) (n0 : Nat) (Inv : Nat → H → Prop) (Stop : H → Prop) : Prop :=
  ∀ i x h, l[i]? = some x → Inv i h → n0 ≤ h.next → Ret F y [x] h fun v h' => FrD M h h' ∧ ((v = .bool true ∧ Inv (i + 1) h') ∨ (v = .bool false ∧ Stop h'))

theorem steps_loop (l r : List Ed) (a : Int) (hl : ∀ x ∈ l, x.1 = a) (hr : ∀ x ∈ r, x.1 ≠ a) (hsz : (l ++ r).length ≤ 1000) (y : Value) (sl' : Value) (pf : Nat) (h0 : H) {M : Nat → Prop} (hrow : Row h0 3 sl' ((l ++ r).map edL))
    (hm1 : ¬ M pf) (hm2 : ∀ b o n c, sl' = .slice (some ⟨b, o, none⟩) n c → ¬ M b) (hpf : pf < h0.next) (hgf : h0.get pf = some (.cells [.int .i64 a] 0)) (Inv : Nat → H → Prop) (Stop : H → Prop) (n0 : Nat) (hn0 : n0 ≤ h0.next)
    (hst : ∀ i h1 h2, Inv i h1 → Fr h1 h2 → Inv i h2) (hy : YOk F y (l.map edV) M n0 Inv Stop) {P : Value → H → Prop} (hP : ∀ h', FrD M h0 h' → (Inv l.length h' ∨ Stop h') → P (.tuple #[]) h') :
    ∀ (n i : Nat) (h : H), i + n = l.length → Inv i h → FrD M h0 h →
    OkV (sh (rI F) c_judge_steps_1_0 (K_judge_steps_1_0 (rI F)) (setL [p0, p2, p18, p19, p20] [y, ptr pf, sl', .int .i64 ((l ++ r).length : Int), .int .i64 (i : Int)]) h) P := by
  intro n
  obtain ⟨N, hN⟩ : ∃ N, (l ++ r).length = N := ⟨_, rfl⟩
  rw [hN] at hsz ⊢
  induction n with
  | zero =>
    intro i h hi hI hf
    rw [s_judge_steps_1_0]
    have hi : i = l.length := by omega
    subst hi
    by_cases hlt : l.length < N
    · have hlt' : l.length < (l ++ r).length := by omega
      have h2 : (l ++ r)[l.length]? = some (l ++ r)[l.length] := List.getElem?_eq_getElem hlt'
      have hx : ((l ++ r).map edL)[l.length]? = some (edL (l ++ r)[l.length]) := by rw [List.getElem?_map, h2]; rfl
      rw [List.getElem?_append_right (Nat.le_refl _)] at h2
      have hne := hr _ (List.mem_of_getElem? h2)
      obtain ⟨b, o, cs, e, hv, hb, hg, ht⟩ := (hrow.frD hf hm2).index hx
      generalize (l ++ r)[l.length] = x at *
      have hpf' : h.get pf = some (.cells [.int .i64 a] 0) := (hf.get _ hpf hm1).trans hgf
      have hpl : pf < h.next := Nat.lt_of_lt_of_le hpf hf.next
      refine OkV.eq (OkV.val (hP (h.new (.cells (edL x) 0)) (hf.new _) (.inl (hst _ _ _ hI (.new _ _))))) ?_
      simp (disch := omega) [hlt, hv, hg, ht, hpf', hne, tupleOf]
    · refine OkV.eq (OkV.val (hP h hf (.inl hI))) ?_
      simp (disch := omega) [hlt, tupleOf]
  | succ n ih =>
    intro i h hi hI hf
    rw [s_judge_steps_1_0]
    have hil : i < l.length := by omega
    have hlt : i < N := by rw [← hN, List.length_append]; omega
    have hx : ((l ++ r).map edL)[i]? = some (edL l[i]) := by
      rw [List.getElem?_map, List.getElem?_append_left hil, List.getElem?_eq_getElem hil]; rfl
    have hmem : l[i].1 = a := hl _ (List.getElem_mem hil)
    have hxv : (l.map edV)[i]? = some (edV l[i]) := by simp [hil]
    obtain ⟨b, o, cs, e, hv, hb, hg, ht⟩ := (hrow.frD hf hm2).index hx
    generalize l[i] = x at *
    have hpf' : h.get pf = some (.cells [.int .i64 a] 0) := (hf.get _ hpf hm1).trans hgf
    have hpl : pf < h.next := Nat.lt_of_lt_of_le hpf hf.next
    have hc := hy i _ (h.new (.cells (edL x) 0)) hxv (hst _ _ _ hI (.new _ _)) (by have := hf.next; simp; omega)
    obtain ⟨x1, x2, x3⟩ := x
    obtain rfl : x1 = a := hmem
    simp (disch := omega) [hlt, hv, hg, ht, hpf']
    refine OkV.call hc ?_
    rintro v h' ⟨hf', hv'⟩
    rcases hv' with ⟨rfl, hI'⟩ | ⟨rfl, hS⟩
    · have := ih (i + 1) h' (by omega) hI' ((hf.new _).trans (hf'.mono fun _ _ h => h))
      refine OkV.eq (this.lp (l_judge_steps_1_0 F _ _ _ _ _ _)) ?_
      simp (disch := omega) [i64_add]
    · refine OkV.eq (OkV.val (hP h' ((hf.new _).trans hf') (.inr hS))) ?_
      simp [tupleOf]
end Go.Ideal.J
set_option linter.unusedSimpArgs false
set_option linter.unusedVariables false
set_option maxRecDepth 10000
namespace Go.Ideal.J
open Go Go.Ideal

abbrev stepsV (pg pf : Nat) : Value := .func (.func n_judge_steps_1) ⟨[]⟩ ⟨[ptr pg, ptr pf]⟩
theorem steps_ok (g : Value) (a : Value) (h : H) : callI F (fnV n_judge_steps) [g, a] h = some (stepsV h.next (h.next + 1), (h.new (.cells (cellsL g) 0)).new (.cells (cellsL a) 0)) := by
  refine call_fn F_judge_steps 2 (by decide) ?_
  rw [s_judge_steps]
  simp
theorem steps_run (es : List Ed) (hs : SortedF es) (hsz : es.length ≤ 1000) (a st lb : Int) (y : Value) (sl : Value) (pg pf : Nat) (h0 : H) {M : Nat → Prop} (hrow : Row h0 3 sl (es.map edL))
    (hm0 : ¬ M pg) (hm1 : ¬ M pf) (hm2 : ∀ b o n c, sl = .slice (some ⟨b, o, none⟩) n c → ¬ M b) (hpg : pg < h0.next) (hgg : h0.get pg = some (.cells (gL st lb sl) 0)) (hpf : pf < h0.next) (hgf : h0.get pf = some (.cells [.int .i64 a] 0)) (Inv : Nat → H → Prop) (Stop : H → Prop) (n0 : Nat) (hn0 : n0 ≤ h0.next)
    (hst : ∀ i h1 h2, Inv i h1 → Fr h1 h2 → Inv i h2) (hy : YOk F y ((outs es a).map edV) M n0 Inv Stop) (hI : Inv 0 h0) {P : Value → H → Prop} (hP : ∀ h', FrD M h0 h' → (Inv (outs es a).length h' ∨ Stop h') → P (.tuple #[]) h') :
    Ret F (stepsV pg pf) [y] h0 P := by
  obtain ⟨base0, c0, hsl0⟩ := hrow.lenM
  subst hsl0
  refine Ret.clo F_judge_steps_1 3 (by decide) ?_
  show OkV (shFunc (rI F) 3 f_judge_steps_1 [y, ptr pg, ptr pf] h0) P
  rw [s_judge_steps_1]
  simp (disch := omega) [hgg, hgf]
  refine OkV.call (bs_ok es hsz a (below es a) (cut_of hs a) _ h0 hrow) ?_
  rintro v h' ⟨⟨b, rfl⟩, hf⟩
  have hle : below es a ≤ (es.map edL).length := by rw [List.length_map]; exact (cut_of hs a).le
  have hgg' : h'.get pg = some (.cells (gL st lb (.slice base0 es.length c0)) 0) := (hf.get _ hpg).trans hgg
  have hgf' : h'.get pf = some (.cells [.int .i64 a] 0) := (hf.get _ hpf).trans hgf
  obtain ⟨sl', hsl, hrow', hfrom⟩ := (hrow.fr hf).drop hle
  rw [← List.map_drop, drop_below hs a] at hrow'
  have hsub : ∀ b o n c, sl' = .slice (some ⟨b, o, none⟩) n c → ¬ M b := by
    intro b o n c e
    obtain ⟨_, _, _, e1⟩ := hfrom _ _ _ _ e
    exact hm2 _ _ _ _ e1
  obtain ⟨base, cc, hsl2⟩ := hrow'.lenM
  have := steps_loop (outs es a) (es.filter fun x => decide (a < x.1)) a (fun x hx => by simpa using (List.mem_filter.1 hx).2) (fun x hx => by have := (List.mem_filter.1 hx).2; simp at this; omega) (by rw [← drop_below hs a, List.length_drop]; omega) y sl' pf h' hrow' hm1 hsub (Nat.lt_of_lt_of_le hpf hf.next) hgf' Inv Stop n0 (Nat.le_trans hn0 hf.next) hst hy
    (P := P) (fun h'' hf2 hv => hP h'' ⟨Nat.le_trans hf.next hf2.next, fun i hi hm => (hf2.get i (Nat.lt_of_lt_of_le hi hf.next) hm).trans (hf.get i hi)⟩ hv) (outs es a).length 0 h' (by omega) (hst _ _ _ hI hf) (.refl _ _)
  refine OkV.eq (this.lp (l_judge_steps_1_0 F _ _ _ _ _ _)) ?_
  have hsl3 := hsl h' (Nat.le_refl _) (fun _ _ => rfl)
  subst hsl2
  simp (disch := omega) [hgg', hsl3]
end Go.Ideal.J
set_option linter.unusedSimpArgs false
set_option linter.unusedVariables false
set_option maxRecDepth 10000
namespace Go.Ideal.J
open Go Go.Ideal

abbrev leadsV (pg pf pl : Nat) : Value := .func (.func n_judge_leads_1) ⟨[]⟩ ⟨[ptr pg, ptr pf, ptr pl]⟩
theorem leads_ok (g a l : Value) (h : H) : callI F (fnV n_judge_leads) [g, a, l] h = some (leadsV h.next (h.next + 1) (h.next + 1 + 1), ((h.new (.cells (cellsL g) 0)).new (.cells (cellsL a) 0)).new (.cells (cellsL l) 0)) := by
  refine call_fn F_judge_leads 3 (by decide) ?_
  rw [s_judge_leads]
  simp
/-- where the edges of a state with a label lead. -/
def tos (es : List Ed) (a lab : Int) : List Int := ((outs es a).filter fun x => decide (x.2.2 = lab)).map fun x => x.2.1
def cnt (l : List Ed) (lab : Int) (i : Nat) : Nat := ((l.take i).filter fun x => decide (x.2.2 = lab)).length
theorem cnt_succ {l : List Ed} {lab : Int} {i : Nat} {x : Ed} (h : l[i]? = some x) : cnt l lab (i + 1) = cnt l lab i + if x.2.2 = lab then 1 else 0 := by
  unfold cnt
  rw [List.take_add_one, h]
  simp only [Option.toList_some, List.filter_append, List.length_append]
  congr 1
  by_cases e : x.2.2 = lab <;> simp [e]
theorem cnt_get {l : List Ed} {lab : Int} {i : Nat} {x : Ed} (h : l[i]? = some x) (e : x.2.2 = lab) : (l.filter fun x => decide (x.2.2 = lab))[cnt l lab i]? = some x := by
  have hl : i < l.length := by
    rcases Nat.lt_or_ge i l.length with h' | h'
    · exact h'
    · rw [List.getElem?_eq_none h'] at h; cases h
  have hd : l.drop i = x :: l.drop (i + 1) := by
    rw [List.drop_eq_getElem_cons hl]
    rw [List.getElem?_eq_getElem hl] at h; cases h; rfl
  have : l.filter (fun x => decide (x.2.2 = lab)) = (l.take i).filter (fun x => decide (x.2.2 = lab)) ++ (l.drop i).filter (fun x => decide (x.2.2 = lab)) := by
    rw [← List.filter_append, List.take_append_drop]
  rw [this, hd]
  unfold cnt
  rw [List.getElem?_append_right (Nat.le_refl _)]
  simp [e]

theorem leads_run (es : List Ed) (hs : SortedF es) (hsz : es.length ≤ 1000) (a lab st lb : Int) (y : Value) (hyc : clean1 y = true) (hyi : isCell y = true) (hyl : cellsL y = [y]) (sl : Value) (pg pf pl : Nat) (h0 : H) {M : Nat → Prop} (hM : ∀ i, M i → i < h0.next ∨ h0.next + 4 ≤ i) (hrow : Row h0 3 sl (es.map edL))
    (hm0 : ¬ M pg) (hm1 : ¬ M pf) (hm3 : ¬ M pl) (hm2 : ∀ b o n c, sl = .slice (some ⟨b, o, none⟩) n c → ¬ M b) (hpg : pg < h0.next) (hgg : h0.get pg = some (.cells (gL st lb sl) 0)) (hpf : pf < h0.next) (hgf : h0.get pf = some (.cells [.int .i64 a] 0)) (hpl : pl < h0.next) (hgl : h0.get pl = some (.cells [.int .i64 lab] 0)) (Inv : Nat → H → Prop) (Stop : H → Prop)
    (hst : ∀ i h1 h2, Inv i h1 → FrD (fun j => j = h0.next + 3) h1 h2 → Inv i h2) (hstS : ∀ h1 h2, Stop h1 → FrD (fun j => j = h0.next + 3) h1 h2 → Stop h2)
    (hy : YOk F y ((tos es a lab).map fun t => .int .i64 t) M (h0.next + 4) Inv Stop) (hI : Inv 0 h0) {P : Value → H → Prop} (hP : ∀ h', FrD M h0 h' → (Inv (tos es a lab).length h' ∨ Stop h') → P (.tuple #[]) h') :
    Ret F (leadsV pg pf pl) [y] h0 P := by
  refine Ret.clo F_judge_leads_1 4 (by decide) ?_
  show OkV (shFunc (rI F) 4 f_judge_leads_1 [y, ptr pg, ptr pf, ptr pl] h0) P
  obtain ⟨base0, c0, hsl0⟩ := hrow.lenM
  subst hsl0
  rw [s_judge_leads_1]
  simp (disch := omega) [hgg, hgf, steps_ok, hyl]
  obtain ⟨l, hl⟩ : ∃ l, l = h0.next + 1 + 1 + 1 := ⟨_, rfl⟩
  obtain ⟨hh, ehh⟩ : ∃ hh, hh = ((((h0.new (.cells [y] 0)).new (.cells [.int .i64 st, .int .i64 lb, .slice base0 es.length c0] 0)).new (.cells [.int .i64 a] 0)).new (.loop .ready none (setL [p3, p4] [ptr pl, ptr h0.next]) r_judge_leads_1_0)) := ⟨_, rfl⟩
  rw [← hl, ← ehh]
  have hf0 : Fr h0 hh := by rw [ehh]; exact (((Fr.new _ _).newR _).newR _).newR _
  have hnx : hh.next = h0.next + 4 := by rw [ehh]; simp
  have gl : hh.get l = some (.loop .ready none (setL [p3, p4] [ptr pl, ptr h0.next]) r_judge_leads_1_0) := by rw [ehh]; simp (disch := omega) [hl]
  have gy : hh.get h0.next = some (.cells [y] 0) := by rw [ehh]; simp (disch := omega)
  have gp : hh.get pl = some (.cells [.int .i64 lab] 0) := (hf0.get _ hpl).trans hgl
  have gg : hh.get (h0.next + 1) = some (.cells (gL st lb (.slice base0 es.length c0)) 0) := by rw [ehh]; simp (disch := omega)
  have gf : hh.get (h0.next + 1 + 1) = some (.cells [.int .i64 a] 0) := by rw [ehh]; simp (disch := omega)
  have nM : ∀ j, h0.next ≤ j → j < h0.next + 4 → ¬ M j := fun j hj hk hm => by have := hM j hm; omega
  have hstL : ∀ {h1 h2 : H}, FrD (fun j => j = l) h1 h2 → FrD (fun j => j = h0.next + 3) h1 h2 := fun h => h.mono fun i _ e => by omega
  refine OkV.call (steps_run es hs hsz a st lb (.func (.yield l) #[] #[]) (.slice base0 es.length c0) (h0.next + 1) (h0.next + 1 + 1) hh (M := fun j => M j ∨ j = l) (hrow.fr hf0) ?_ ?_ ?_ (by omega) gg (by omega) gf
    (fun i h => Inv (cnt (outs es a) lab i) h ∧ h.get l = some (.loop .ready none (setL [p3, p4] [ptr pl, ptr h0.next]) r_judge_leads_1_0) ∧ h.get pl = some (.cells [.int .i64 lab] 0) ∧ h.get h0.next = some (.cells [y] 0) ∧ hh.next ≤ h.next)
    (fun h => Stop h ∧ h.get l = some (.loop .done (some .ret) (setL [p3, p4] [ptr pl, ptr h0.next]) r_judge_leads_1_0)) hh.next (Nat.le_refl _) ?_ ?_ ?_
    (P := fun _ h' => FrD (fun j => M j ∨ j = l) hh h' ∧ ((Inv (tos es a lab).length h' ∧ h'.get l = some (.loop .ready none (setL [p3, p4] [ptr pl, ptr h0.next]) r_judge_leads_1_0)) ∨ (Stop h' ∧ h'.get l = some (.loop .done (some .ret) (setL [p3, p4] [ptr pl, ptr h0.next]) r_judge_leads_1_0)))) ?_) ?_
  · rintro (h | h)
    · exact nM _ (by omega) (by omega) h
    · omega
  · rintro (h | h)
    · exact nM _ (by omega) (by omega) h
    · omega
  · rintro b o n c e (h | h)
    · exact hm2 b o n c e h
    · subst h
      have := hrow.lt e
      omega
  · rintro i h1 h2 ⟨i1, i2, i3, i4, i5⟩ hf
    refine ⟨hst _ _ _ i1 hf.D, (hf.get _ (by omega)).trans i2, (hf.get _ (by omega)).trans i3, (hf.get _ (by omega)).trans i4, Nat.le_trans i5 hf.next⟩
  · rintro i v h1 hv ⟨i1, i2, i3, i4, i5⟩ hn
    rw [List.getElem?_map] at hv
    obtain ⟨x, hx, rfl⟩ := Option.map_eq_some_iff.1 hv
    refine Ret.round i2 ?_
    rw [s_judge_leads_1_0]
    simp (disch := omega)
    rw [busyK_eq (by rw [get_new_ne (by omega)]; exact i2), s_judge_leads_1_1]
    simp (disch := omega) [i3, i4]
    by_cases e : x.2.2 = lab
    · have hc := cnt_get hx e
      have hc' : ((tos es a lab).map fun t => Value.int .i64 t)[cnt (outs es a) lab i]? = some (.int .i64 x.2.1) := by
        unfold tos; rw [List.getElem?_map, List.getElem?_map, hc]; rfl
      have := hy _ _ ((h1.new (.cells (edL x) 0)).put l (.loop .busy none (setL [p3, p4] [ptr pl, ptr h0.next]) r_judge_leads_1_0)) hc' (hst _ _ _ i1 (hstL (((FrD.refl _ _).new _).put (D := fun j => j = l) (.inr rfl) _))) (by simp; omega)
      obtain ⟨x1, x2, x3⟩ := x
      obtain rfl : x3 = lab := e
      have hcs := cnt_succ (lab := x3) hx
      rw [if_pos rfl] at hcs
      simp (disch := omega)
      refine OkV.call this ?_
      rintro v h' ⟨hf, hv'⟩
      have hfl : FrD (fun j => M j ∨ j = l) h1 h' := (((FrD.refl _ _).new _).put (D := fun j => M j ∨ j = l) (.inr (.inr rfl)) _).trans (hf.mono fun _ _ h => .inl h)
      have gl' : h'.get l = some (.loop .busy none (setL [p3, p4] [ptr pl, ptr h0.next]) r_judge_leads_1_0) := by
        rw [hf.get _ (by simp; omega) (nM _ (by omega) (by omega)), get_put_eq rfl]
      have gp' : h'.get pl = some (.cells [.int .i64 x3] 0) := (hfl.get _ (by omega) (fun h => h.elim hm3 (by omega))).trans i3
      have gy' : h'.get h0.next = some (.cells [y] 0) := (hfl.get _ (by omega) (fun h => h.elim (nM _ (Nat.le_refl _) (by omega)) (by omega))).trans i4
      have hn' := hfl.next
      rcases hv' with ⟨rfl, hI'⟩ | ⟨rfl, hS⟩
      · simp [fin_none gl']
        refine OkV.val ⟨hfl.put (.inr (.inr rfl)) _, .inl ⟨rfl, ?_, by simp, ?_, ?_, by simp; omega⟩⟩
        · rw [hcs]; exact hst _ _ _ hI' (hstL ((FrD.refl _ _).put (D := fun j => j = l) (.inr rfl) _))
        · rw [get_put_ne' (by omega)]; exact gp'
        · rw [get_put_ne' (by omega)]; exact gy'
      · simp [fin_some gl']
        exact OkV.val ⟨hfl.put (.inr (.inr rfl)) _, .inr ⟨rfl, hstS _ _ hS (hstL ((FrD.refl _ _).put (D := fun j => j = l) (.inr rfl) _)), by simp⟩⟩
    · have hcs := cnt_succ (lab := lab) hx
      rw [if_neg e] at hcs
      have gl' : ((h1.new (.cells (edL x) 0)).put l (.loop .busy none (setL [p3, p4] [ptr pl, ptr h0.next]) r_judge_leads_1_0)).get l = some (.loop .busy none (setL [p3, p4] [ptr pl, ptr h0.next]) r_judge_leads_1_0) := get_put_eq rfl
      simp (disch := omega) [e, fin_none gl', put_put]
      have hfl : FrD (fun j => M j ∨ j = l) h1 ((h1.new (.cells (edL x) 0)).put l (.loop .ready none (setL [p3, p4] [ptr pl, ptr h0.next]) r_judge_leads_1_0)) := ((FrD.refl _ _).new _).put (.inr (.inr rfl)) _
      refine OkV.val ⟨hfl, .inl ⟨rfl, ?_, by simp, ?_, ?_, by simp; omega⟩⟩
      · rw [hcs]; exact hst _ _ _ i1 (hstL (((FrD.refl _ _).new _).put (D := fun j => j = l) (.inr rfl) _))
      · rw [get_put_ne' (by omega), get_new_ne (by omega)]; exact i3
      · rw [get_put_ne' (by omega), get_new_ne (by omega)]; exact i4
  · exact ⟨hst _ _ _ (by simpa [cnt] using hI) hf0.D, gl, gp, gy, Nat.le_refl _⟩
  · intro h' hf hv
    have ec : cnt (outs es a) lab (outs es a).length = (tos es a lab).length := by unfold cnt tos; simp
    refine ⟨hf, ?_⟩
    rcases hv with ⟨i1, i2, _⟩ | ⟨i1, i2⟩
    · exact .inl ⟨ec ▸ i1, i2⟩
    · exact .inr ⟨i1, i2⟩
  · rintro v h' ⟨hf, hv⟩
    have hfM : ∀ {o : IObj}, FrD M h0 (h'.put l o) := fun {o} => ⟨Nat.le_trans hf0.next hf.next, fun i hi hm => by
      rw [get_put_ne' (by omega)]; exact (hf.get i (by omega) (fun h => h.elim hm (by omega))).trans (hf0.get i hi)⟩
    rcases hv with ⟨i1, i2⟩ | ⟨i1, i2⟩
    · rw [rgP_ready i2]
      exact OkV.val (hP _ hfM (.inl (hst _ _ _ i1 (hstL ((FrD.refl _ _).put (D := fun j => j = l) (.inr rfl) _)))))
    · rw [rgP_ret i2]
      exact OkV.val (hP _ hfM (.inr (hstS _ _ i1 (hstL ((FrD.refl _ _).put (D := fun j => j = l) (.inr rfl) _)))))
end Go.Ideal.J
set_option linter.unusedSimpArgs false
set_option linter.unusedVariables false
set_option maxRecDepth 10000
namespace Go.Ideal.J
open Go Go.Ideal

end Go.Ideal.J
set_option linter.unusedSimpArgs false
set_option linter.unusedVariables false
set_option maxRecDepth 10000
namespace Go.Ideal.J
open Go Go.Ideal

end Go.Ideal.J
set_option linter.unusedSimpArgs false
set_option linter.unusedVariables false
set_option maxRecDepth 10000
namespace Go.Ideal.J
open Go Go.Ideal

theorem mem_tos {es : List Ed} {a lab t : Int} : t ∈ tos es a lab ↔ ∃ x ∈ es, x.1 = a ∧ x.2.2 = lab ∧ x.2.1 = t := by
  unfold tos outs
  constructor
  · intro h
    obtain ⟨x, hx, rfl⟩ := List.mem_map.1 h
    obtain ⟨h1, h2⟩ := List.mem_filter.1 hx
    obtain ⟨h3, h4⟩ := List.mem_filter.1 h1
    exact ⟨x, h3, by simpa using h4, by simpa using h2, rfl⟩
  · rintro ⟨x, hx, h1, h2, rfl⟩
    exact List.mem_map.2 ⟨x, List.mem_filter.2 ⟨List.mem_filter.2 ⟨hx, by simpa using h1⟩, by simpa using h2⟩, rfl⟩
end Go.Ideal.J
set_option linter.unusedSimpArgs false
set_option linter.unusedVariables false
set_option maxRecDepth 10000
namespace Go.Ideal.J
open Go Go.Ideal

end Go.Ideal.J
set_option linter.unusedSimpArgs false
set_option linter.unusedVariables false
set_option maxRecDepth 10000
namespace Go.Ideal.J
open Go Go.Ideal

/-- rows of marks, each in a block of its own. -/
structure There (h : H) (B : Nat) (bl : List Nat) (lo hi N : Nat) (T : Nat → Nat → Prop) : Prop where
  get : h.get B = some (.cells (bl.map fun b => slF b N) 0)
  nd : bl.Nodup
  bnd : ∀ b ∈ bl, lo ≤ b ∧ b < hi
  row : ∀ (l b : Nat), bl[l]? = some b → ∃ bs : List Bool, h.get b = some (.cells (boolsL bs) 0) ∧ bs.length = N ∧ ∀ c, bs[c]? = some true ↔ c < N ∧ T l c
  ltB : B < h.next
  out : B < lo
  hin : hi ≤ h.next
theorem There.fr {D : Nat → Prop} {h h' : H} {B : Nat} {bl : List Nat} {lo hi N : Nat} {T : Nat → Nat → Prop} (t : There h B bl lo hi N T) (hf : FrD D h h') (hB : ¬ D B) (hb : ∀ b, lo ≤ b → b < hi → ¬ D b) : There h' B bl lo hi N T where
  get := (hf.get _ t.ltB hB).trans t.get
  nd := t.nd
  bnd := t.bnd
  row := fun l b e => by
    obtain ⟨bs, h1, h2, h3⟩ := t.row l b e
    have := t.bnd b (List.mem_of_getElem? e)
    have := t.hin
    exact ⟨bs, (hf.get _ (by omega) (hb b (by omega) (by omega))).trans h1, h2, h3⟩
  ltB := Nat.lt_of_lt_of_le t.ltB hf.next
  out := t.out
  hin := Nat.le_trans t.hin hf.next
/-- a mark is set. -/
theorem There.set {h : H} {B : Nat} {bl : List Nat} {lo hi N : Nat} {T : Nat → Nat → Prop} (t : There h B bl lo hi N T) {l c b : Nat} (hl : bl[l]? = some b) (hc : c < N) {bs : List Bool} (hg : h.get b = some (.cells (boolsL bs) 0)) : There (h.put b (.cells (boolsL (bs.set c true)) 0)) B bl lo hi N (fun l' c' => T l' c' ∨ (l' = l ∧ c' = c)) where
  get := by
    have := t.bnd b (List.mem_of_getElem? hl)
    have := t.out
    rw [get_put_ne' (by omega)]; exact t.get
  nd := t.nd
  bnd := t.bnd
  row := fun l' b' e => by
    obtain ⟨bs', h1, h2, h3⟩ := t.row l' b' e
    by_cases eb : b' = b
    · subst eb
      have el : l' = l := by
        have hl1 : l' < bl.length := by
          rcases Nat.lt_or_ge l' bl.length with h' | h'
          · exact h'
          · rw [List.getElem?_eq_none h'] at e; cases e
        have hl2 : l < bl.length := by
          rcases Nat.lt_or_ge l bl.length with h' | h'
          · exact h'
          · rw [List.getElem?_eq_none h'] at hl; cases hl
        rw [List.getElem?_eq_getElem hl1] at e
        rw [List.getElem?_eq_getElem hl2] at hl
        exact (List.getElem_inj t.nd).1 ((Option.some.inj e).trans (Option.some.inj hl).symm)
      subst el
      rw [hg] at h1
      have e2 : bs = bs' := by
        have : boolsL bs = boolsL bs' := (IObj.cells.inj (Option.some.inj h1)).1
        exact List.map_inj_right (fun _ _ h => by cases h; rfl) |>.1 this
      subst e2
      refine ⟨bs.set c true, get_put_eq rfl, by simpa using h2, fun c' => ?_⟩
      rw [List.getElem?_set]
      split
      · rename_i ec; subst ec
        simp [h2, hc]
      · rename_i ec
        rw [h3]
        constructor
        · rintro ⟨q1, q2⟩; exact ⟨q1, .inl q2⟩
        · rintro ⟨q1, q2 | q2⟩
          · exact ⟨q1, q2⟩
          · exact absurd q2.2.symm ec
    · refine ⟨bs', by rw [get_put_ne' eb]; exact h1, h2, fun c' => (h3 c').trans ?_⟩
      have : l' ≠ l := by rintro rfl; rw [hl] at e; cases e; exact eb rfl
      constructor
      · rintro ⟨q1, q2⟩; exact ⟨q1, .inl q2⟩
      · rintro ⟨q1, q2 | q2⟩
        · exact ⟨q1, q2⟩
        · exact absurd q2.1 this
  ltB := t.ltB
  out := t.out
  hin := t.hin
theorem There.congr {h : H} {B : Nat} {bl : List Nat} {lo hi N : Nat} {T T' : Nat → Nat → Prop} (t : There h B bl lo hi N T) (e : ∀ l c, c < N → (T l c ↔ T' l c)) : There h B bl lo hi N T' where
  get := t.get
  nd := t.nd
  bnd := t.bnd
  row := fun l b el => by
    obtain ⟨bs', h1, h2, h3⟩ := t.row l b el
    refine ⟨bs', h1, h2, fun c => (h3 c).trans ?_⟩
    constructor
    · rintro ⟨q1, q2⟩; exact ⟨q1, (e l c q1).1 q2⟩
    · rintro ⟨q1, q2⟩; exact ⟨q1, (e l c q1).2 q2⟩
  ltB := t.ltB
  out := t.out
  hin := t.hin
theorem There.slice {h : H} {B : Nat} {bl : List Nat} {lo hi N : Nat} {T : Nat → Nat → Prop} (t : There h B bl lo hi N T) {l b : Nat} (hl : bl[l]? = some b) : takeC 1 (dropN l (bl.map fun b => slF b N)) = some [slF b N] := takeC_at (by rw [List.getElem?_map, hl]; rfl) rfl

end Go.Ideal.J
set_option linter.unusedSimpArgs false
set_option linter.unusedVariables false
set_option maxRecDepth 10000
namespace Go.Ideal.J
open Go Go.Ideal

end Go.Ideal.J
set_option linter.unusedSimpArgs false
set_option linter.unusedVariables false
set_option maxRecDepth 10000
namespace Go.Ideal.J
open Go Go.Ideal
end Go.Ideal.J
set_option linter.unusedSimpArgs false
set_option linter.unusedVariables false
set_option maxRecDepth 10000
namespace Go.Ideal.J
open Go Go.Ideal

end Go.Ideal.J
set_option linter.unusedSimpArgs false
set_option linter.unusedVariables false
set_option maxRecDepth 10000
namespace Go.Ideal.J
open Go Go.Ideal
end Go.Ideal.J
set_option linter.unusedSimpArgs false
set_option linter.unusedVariables false
set_option maxRecDepth 10000
namespace Go.Ideal.J
open Go Go.Ideal
/-- the weak steps. -/
def W (es : List Ed) (n l c : Nat) : Prop := (l = 0 ∧ Sil es n c) ∨ ∃ x ∈ es, Sil es n x.1.toNat ∧ x.2.2 = (l : Int) ∧ Sil es x.2.1.toNat c
end Go.Ideal.J
set_option linter.unusedSimpArgs false
set_option linter.unusedVariables false
set_option maxRecDepth 10000
namespace Go.Ideal.J
open Go Go.Ideal
end Go.Ideal.J
set_option linter.unusedSimpArgs false
set_option linter.unusedVariables false
set_option maxRecDepth 10000
namespace Go.Ideal.J
open Go Go.Ideal
/-- a graph that is formed. -/
structure Formed (st lb : Int) (es : List Ed) : Prop where
  st1 : 1 ≤ st
  st2 : st ≤ 60
  lb1 : 1 ≤ lb
  lb2 : lb ≤ 41
  len : es.length ≤ 400
  ok : ∀ x ∈ es, 0 ≤ x.1 ∧ x.1 < st ∧ 0 ≤ x.2.1 ∧ x.2.1 < st ∧ 0 ≤ x.2.2 ∧ x.2.2 < lb
  next : ∀ i x y, es[i]? = some x → es[i + 1]? = some y → lessE x y = true
theorem Formed.inB {st lb : Int} {es : List Ed} (f : Formed st lb es) : inB st es := fun x hx => by have := f.ok x hx; exact ⟨this.1, this.2.1, this.2.2.1, this.2.2.2.1⟩
theorem lessE_iff (a b : Ed) : lessE a b = true ↔ a.1 < b.1 ∨ (a.1 = b.1 ∧ (a.2.2 < b.2.2 ∨ (a.2.2 = b.2.2 ∧ a.2.1 < b.2.1))) := by
  unfold lessE
  by_cases h1 : a.1 = b.1
  · by_cases h2 : a.2.2 = b.2.2
    · simp [h1, h2]
    · simp [h1, h2]
  · simp [h1]
theorem lessE_trans {a b c : Ed} (h1 : lessE a b = true) (h2 : lessE b c = true) : lessE a c = true := by
  rw [lessE_iff] at *; omega
theorem Formed.sorted {st lb : Int} {es : List Ed} (f : Formed st lb es) : es.Pairwise fun x y => lessE x y = true := by
  have key : ∀ (l : List Ed), (∀ i x y, l[i]? = some x → l[i + 1]? = some y → lessE x y = true) → l.Pairwise fun x y => lessE x y = true := by
    intro l
    induction l with
    | nil => intro _; exact .nil
    | cons a l ih =>
      intro h
      have ihl := ih fun i x y hx hy => h (i + 1) x y (by simpa using hx) (by simpa using hy)
      refine List.pairwise_cons.2 ⟨?_, ihl⟩
      cases l with
      | nil => intro b hb; cases hb
      | cons b l =>
        have hab := h 0 a b rfl rfl
        intro c hc
        rcases List.mem_cons.1 hc with rfl | hc
        · exact hab
        · exact lessE_trans hab ((List.pairwise_cons.1 ihl).1 c hc)
  exact key es f.next
theorem Formed.sortedF {st lb : Int} {es : List Ed} (f : Formed st lb es) : SortedF es := f.sorted.imp fun h => by rw [lessE_iff] at h; omega
theorem chk_iff (st lb : Int) (es : List Ed) : chk st lb es = true ↔ Formed st lb es := by
  have key : ∀ n, n ≤ es.length → (ckN st lb es n = true ↔ ∀ i, es.length - n ≤ i → okAt st lb es i = true) := by
    intro n
    induction n with
    | zero =>
      intro _
      constructor
      · intro _ i hi
        unfold okAt
        rw [List.getElem?_eq_none (by omega)]
      · intro _; rfl
    | succ n ih =>
      intro hn
      show (okAt st lb es (es.length - (n + 1)) && ckN st lb es n) = true ↔ _
      rw [Bool.and_eq_true, ih (by omega)]
      constructor
      · rintro ⟨h1, h2⟩ i hi
        by_cases e : i = es.length - (n + 1)
        · rw [e]; exact h1
        · exact h2 i (by omega)
      · intro h
        exact ⟨h _ (by omega), fun i hi => h i (by omega)⟩
  have key2 : (ckN st lb es es.length = true) ↔ ((∀ x ∈ es, 0 ≤ x.1 ∧ x.1 < st ∧ 0 ≤ x.2.1 ∧ x.2.1 < st ∧ 0 ≤ x.2.2 ∧ x.2.2 < lb) ∧ ∀ i x y, es[i]? = some x → es[i + 1]? = some y → lessE x y = true) := by
    rw [key es.length (Nat.le_refl _)]
    constructor
    · intro h
      refine ⟨fun x hx => ?_, fun i x y hx hy => ?_⟩
      · obtain ⟨i, hi⟩ := List.mem_iff_getElem?.1 hx
        have := h i (by omega)
        unfold okAt at this
        rw [hi] at this
        simp only [Bool.and_eq_true, Bool.not_eq_true', badE, Bool.or_eq_false_iff, decide_eq_false_iff_not] at this
        omega
      · have := h (i + 1) (by omega)
        unfold okAt at this
        rw [hy] at this
        simp only [Bool.and_eq_true, Nat.add_sub_cancel, hx] at this
        simpa using this.2
    · rintro ⟨h1, h2⟩ i _
      unfold okAt
      cases hx : es[i]? with
      | none => rfl
      | some x =>
        have hb := h1 x (List.mem_of_getElem? hx)
        have hbad : badE st lb x = false := by
          simp only [badE, Bool.or_eq_false_iff, decide_eq_false_iff_not]; omega
        simp only [hbad, Bool.not_false, Bool.true_and, Bool.or_eq_true, decide_eq_true_eq]
        by_cases e : i = 0
        · exact .inl e
        · right
          cases hy : es[i - 1]? with
          | none => rfl
          | some y => exact h2 (i - 1) y x hy (by rw [show i - 1 + 1 = i by omega]; exact hx)
  unfold chk
  simp only [Bool.and_eq_true, Bool.not_eq_true', Bool.or_eq_false_iff, decide_eq_false_iff_not, key2]
  constructor
  · rintro ⟨⟨⟨⟨⟨h1, h2⟩, h3⟩, h4⟩, h5⟩, h6, h7⟩
    exact ⟨by omega, by omega, by omega, by omega, by omega, h6, h7⟩
  · rintro ⟨h1, h2, h3, h4, h5, h6, h7⟩
    exact ⟨⟨⟨⟨⟨by omega, by omega⟩, by omega⟩, by omega⟩, by omega⟩, h6, h7⟩

/-- what Weak answers. -/
abbrev pairV (a b : Value) : Value := .tuple ⟨[a, b]⟩
end Go.Ideal.J
set_option linter.unusedSimpArgs false
set_option linter.unusedVariables false
set_option maxRecDepth 10000
set_option maxHeartbeats 2000000
namespace Go.Ideal.J
open Go Go.Ideal
/-- the rounds, as the map holds them. -/
abbrev rV (r : Int → Int → Option Int) : Int → Int → Option Value := fun a b => (r a b).map fun k => Value.int .i64 k
def tellsR (r : Int → Int → Option Int) (round u t : Int) : Bool := decide (u ≠ t) && match r u t with | some k => decide (k ≤ round) | none => false
def toldR (r : Int → Int → Option Int) (es : List Ed) (x : Ed) (other round : Int) : Bool := (tos es other x.2.2).all fun t => tellsR r round x.2.1 t

theorem told_round (r : Int → Int → Option Int) (m : Nat) (x : Ed) (round t : Int) (L pm px pr pq : Nat) (h1 : H) (hm : MapM h1 m (rV r)) (hml : m < h1.next) (hL : h1.get L = some (.loop .ready none (setL [p5, p7, p9, p10] [ptr pm, ptr px, ptr pr, ptr pq]) r_judge_rounds_told_1))
    (hpm : h1.get pm = some (.cells [.map (some m)] 0)) (hpx : h1.get px = some (.cells (edL x) 0)) (hpr : h1.get pr = some (.cells [.int .i64 round] 0)) (hpq : h1.get pq = some (.cells [.bool false] 0)) (l0 : L < h1.next) (l1 : pm < h1.next) (l2 : px < h1.next) (l3 : pr < h1.next) (l4 : pq < h1.next)
    (n1 : pm ≠ L) (n2 : px ≠ L) (n3 : pr ≠ L) (n4 : pq ≠ L) (n5 : m ≠ L) {P : Value → H → Prop}
    (hP1 : tellsR r round x.2.1 t = true → ∀ h', FrD (fun j => j = L ∨ j = pq) h1 h' → h'.get L = some (.loop .ready none (setL [p5, p7, p9, p10] [ptr pm, ptr px, ptr pr, ptr pq]) r_judge_rounds_told_1) → h'.get pq = some (.cells [.bool false] 0) → P (.bool true) h')
    (hP2 : tellsR r round x.2.1 t = false → ∀ h', FrD (fun j => j = L ∨ j = pq) h1 h' → h'.get L = some (.loop .done (some .ret) (setL [p5, p7, p9, p10] [ptr pm, ptr px, ptr pr, ptr pq]) r_judge_rounds_told_1) → h'.get pq = some (.cells [.bool false] 0) → P (.bool false) h') :
    Ret F (.func (.yield L) #[] #[]) [.int .i64 t] h1 P := by
  refine Ret.round hL ?_
  rw [s_judge_rounds_told_1]
  simp (disch := first | omega | (simp only [new_next, put_next]; done) | (simp only [new_next, put_next]; omega)) []
  rw [busyK_eq hL, s_judge_rounds_told_2]
  obtain ⟨h2, eh2⟩ : ∃ h2, h2 = (h1.put L (.loop .busy none (setL [p5, p7, p9, p10] [ptr pm, ptr px, ptr pr, ptr pq]) r_judge_rounds_told_1)).new (.cells [.int .i64 x.2.1, .int .i64 t] 0) := ⟨_, rfl⟩
  have hf2 : FrD (fun j => j = L) h1 h2 := by rw [eh2]; exact ((FrD.refl (fun j => j = L) _).put (.inr rfl) _).new _
  have hn2 : h2.next = h1.next + 1 := by rw [eh2]; simp
  have gL : h2.get L = some (.loop .busy none (setL [p5, p7, p9, p10] [ptr pm, ptr px, ptr pr, ptr pq]) r_judge_rounds_told_1) := by rw [eh2, get_new_ne (by simp; omega), get_put_eq rfl]
  have hm2 : MapM h2 m (rV r) := hm.fr hf2 hml n5
  have gm := (hf2.get _ l1 n1).trans hpm
  have gx := (hf2.get _ l2 n2).trans hpx
  have gr := (hf2.get _ l3 n3).trans hpr
  have gq := (hf2.get _ l4 n4).trans hpq
  have gp : h2.get h1.next = some (.cells [.int .i64 x.2.1, .int .i64 t] 0) := by rw [eh2, get_new_eq (by simp)]
  have hlk := look_ok hm2 (.int .i64 0) x.2.1 t
  have hf3 : ∀ o, FrD (fun j => j = L ∨ j = pq) h1 (h2.put L o) := fun o => (hf2.mono fun _ _ h => .inl h).put (.inr (.inl rfl)) _
  have hf4 : ∀ o o', FrD (fun j => j = L ∨ j = pq) h1 ((h2.put pq o').put L o) := fun o o' => ((hf2.mono fun _ _ h => .inl h).put (.inr (.inr rfl)) _).put (.inr (.inl rfl)) _
  have gL4 : ∀ o', (h2.put pq o').get L = some (.loop .busy none (setL [p5, p7, p9, p10] [ptr pm, ptr px, ptr pr, ptr pq]) r_judge_rounds_told_1) := fun o' => by rw [get_put_ne' (Ne.symm n4)]; exact gL
  have okk : tellsR r round x.2.1 t = true → OkV (fin L none h2) P := fun e => by
    rw [fin_none gL]
    exact OkV.val (hP1 e _ (hf3 _) (get_put_eq rfl) (by rw [get_put_ne' n4]; exact gq))
  have okn : tellsR r round x.2.1 t = false → OkV (fin L (some .ret) (h2.put pq (.cells [.bool false] 0))) P := fun e => by
    rw [fin_some (gL4 _)]
    exact OkV.val (hP2 e _ (hf4 _ _) (get_put_eq rfl) (by rw [get_put_ne' n4]; exact get_put_eq rfl))
  by_cases c1 : x.2.1 = t
  · refine OkV.eq (okn (by simp [tellsR, c1])) ?_
    rw [c1] at hlk gp eh2
    simp (disch := first | omega | (simp only [new_next, put_next]; done) | (simp only [new_next, put_next]; omega)) [hpx, n2, c1, fillL, ← eh2, gm, gp, hlk, vBin_pair, gq]
  · cases hr : r x.2.1 t with
    | none =>
      simp only [rV, hr, Option.map_none, Option.map_some, Option.getD_none, Option.getD_some, Option.isSome_none, Option.isSome_some] at hlk
      refine OkV.eq (okn (by simp [tellsR, hr])) ?_
      simp (disch := first | omega | (simp only [new_next, put_next]; done) | (simp only [new_next, put_next]; omega)) [hpx, n2, c1, fillL, ← eh2, gm, gp, hlk, vBin_pair, gq]
    | some k =>
      simp only [rV, hr, Option.map_none, Option.map_some, Option.getD_none, Option.getD_some, Option.isSome_none, Option.isSome_some] at hlk
      by_cases c2 : k ≤ round
      · refine OkV.eq (okk (by simp [tellsR, hr, c1, c2])) ?_
        simp (disch := first | omega | (simp only [new_next, put_next]; done) | (simp only [new_next, put_next]; omega)) [hpx, n2, c1, fillL, ← eh2, gm, gp, hlk, vBin_pair, gq, gr, c2]
      · refine OkV.eq (okn (by simp [tellsR, hr, c2])) ?_
        simp (disch := first | omega | (simp only [new_next, put_next]; done) | (simp only [new_next, put_next]; omega)) [hpx, n2, c1, fillL, ← eh2, gm, gp, hlk, vBin_pair, gq, gr, c2]
end Go.Ideal.J
set_option linter.unusedSimpArgs false
set_option linter.unusedVariables false
set_option maxRecDepth 10000
set_option maxHeartbeats 2000000
namespace Go.Ideal.J
open Go Go.Ideal

theorem told_ok (es : List Ed) (hs : SortedF es) (hsz : es.length ≤ 1000) (st lb : Int) (r : Int → Int → Option Int) (m : Nat) (x : Ed) (other round : Int) (sl : Value) (h : H) (hrow : Row h 3 sl (es.map edL)) (hm : MapM h m (rV r)) (hml : m < h.next) :
    ∃ h', callI F (fnV n_judge_rounds_told) [.map (some m), gV st lb sl, edV x, .int .i64 other, .int .i64 round] h = some (.bool (toldR r es x other round), h') ∧ Fr h h' := by
  suffices hr : Ret F (fnV n_judge_rounds_told) [.map (some m), gV st lb sl, edV x, .int .i64 other, .int .i64 round] h fun v h' => v = .bool (toldR r es x other round) ∧ Fr h h' by
    obtain ⟨v, h', e, rfl, hf⟩ := hr; exact ⟨h', e, hf⟩
  obtain ⟨P, hPd⟩ : ∃ P : Value → H → Prop, P = fun v h' => v = .bool (toldR r es x other round) ∧ Fr h h' := ⟨_, rfl⟩
  rw [← hPd]
  refine Ret.fn F_judge_rounds_told 5 (by decide) ?_
  rw [s_judge_rounds_told]
  have hv := hrow.slvM
  obtain ⟨q, eq⟩ : ∃ q, q = h.next := ⟨_, rfl⟩
  obtain ⟨h2, eh2⟩ : ∃ h2, h2 = ((((((((h.new (.cells [.map (some m)] 0)).new (.cells (gL st lb sl) 0)).new (.cells (edL x) 0)).new (.cells [.int .i64 round] 0)).new (.cells [.bool false] 0)).new (.cells (gL st lb sl) 0)).new (.cells [.int .i64 other] 0)).new (.cells [.int .i64 x.2.2] 0)).new (.loop .ready none (setL [p5, p7, p9, p10] [ptr h.next, ptr (h.next + 1 + 1), ptr (h.next + 1 + 1 + 1), ptr (h.next + 1 + 1 + 1 + 1)]) r_judge_rounds_told_1) := ⟨_, rfl⟩
  simp (disch := first | omega | (simp only [new_next, put_next]; done) | (simp only [new_next, put_next]; omega)) [hv.clean, hv.take, leads_ok]
  rw [← eh2, ← eq]
  have hf2 : Fr h h2 := by rw [eh2]; exact ((((((((Fr.new _ _).newR _).newR _).newR _).newR _).newR _).newR _).newR _).newR _
  have hn2 : h2.next = q + 9 := by rw [eh2, eq]; simp
  have gm2 : h2.get q = some (.cells [.map (some m)] 0) := by rw [eh2, eq]; simp (disch := first | omega | (simp only [new_next, put_next]; done) | (simp only [new_next, put_next]; omega)) []
  have gx2 : h2.get (q + 1 + 1) = some (.cells (edL x) 0) := by rw [eh2, eq]; simp (disch := first | omega | (simp only [new_next, put_next]; done) | (simp only [new_next, put_next]; omega)) []
  have gr2 : h2.get (q + 1 + 1 + 1) = some (.cells [.int .i64 round] 0) := by rw [eh2, eq]; simp (disch := first | omega | (simp only [new_next, put_next]; done) | (simp only [new_next, put_next]; omega)) []
  have gq2 : h2.get (q + 1 + 1 + 1 + 1) = some (.cells [.bool false] 0) := by rw [eh2, eq]; simp (disch := first | omega | (simp only [new_next, put_next]; done) | (simp only [new_next, put_next]; omega)) []
  have gg2 : h2.get (q + 1 + 1 + 1 + 1 + 1) = some (.cells (gL st lb sl) 0) := by rw [eh2, eq]; simp (disch := first | omega | (simp only [new_next, put_next]; done) | (simp only [new_next, put_next]; omega)) []
  have go2 : h2.get (q + 1 + 1 + 1 + 1 + 1 + 1) = some (.cells [.int .i64 other] 0) := by rw [eh2, eq]; simp (disch := first | omega | (simp only [new_next, put_next]; done) | (simp only [new_next, put_next]; omega)) []
  have gl2 : h2.get (q + 1 + 1 + 1 + 1 + 1 + 1 + 1) = some (.cells [.int .i64 x.2.2] 0) := by rw [eh2, eq]; simp (disch := first | omega | (simp only [new_next, put_next]; done) | (simp only [new_next, put_next]; omega)) []
  have gL2 : h2.get (q + 1 + 1 + 1 + 1 + 1 + 1 + 1 + 1) = some (.loop .ready none (setL [p5, p7, p9, p10] [ptr q, ptr (q + 1 + 1), ptr (q + 1 + 1 + 1), ptr (q + 1 + 1 + 1 + 1)]) r_judge_rounds_told_1) := by rw [eh2, eq]; simp (disch := first | omega | (simp only [new_next, put_next]; done) | (simp only [new_next, put_next]; omega)) []
  obtain ⟨L, eL⟩ : ∃ L, L = q + 1 + 1 + 1 + 1 + 1 + 1 + 1 + 1 := ⟨_, rfl⟩
  rw [← eL] at gL2 ⊢
  have hm2 := hm.fr (D := fun _ => False) hf2.D hml (by simp)
  refine OkV.call (leads_run es hs hsz other x.2.2 st lb (.func (.yield L) #[] #[]) rfl rfl rfl sl (q + 1 + 1 + 1 + 1 + 1) (q + 1 + 1 + 1 + 1 + 1 + 1) (q + 1 + 1 + 1 + 1 + 1 + 1 + 1) h2 (M := fun j => j = L ∨ j = q + 1 + 1 + 1 + 1) (fun i hi => by omega) (hrow.fr hf2) (by omega) (by omega) (by omega) (fun b o n c e => by have := hrow.lt e; omega) (by omega) gg2 (by omega) go2 (by omega) gl2
    (fun i h1 => h1.get L = some (.loop .ready none (setL [p5, p7, p9, p10] [ptr q, ptr (q + 1 + 1), ptr (q + 1 + 1 + 1), ptr (q + 1 + 1 + 1 + 1)]) r_judge_rounds_told_1) ∧ h1.get (q + 1 + 1 + 1 + 1) = some (.cells [.bool false] 0) ∧ FrD (fun j => j = L ∨ j = q + 1 + 1 + 1 + 1) h2 h1 ∧ ∀ t ∈ (tos es other x.2.2).take i, tellsR r round x.2.1 t = true)
    (fun h1 => h1.get L = some (.loop .done (some .ret) (setL [p5, p7, p9, p10] [ptr q, ptr (q + 1 + 1), ptr (q + 1 + 1 + 1), ptr (q + 1 + 1 + 1 + 1)]) r_judge_rounds_told_1) ∧ h1.get (q + 1 + 1 + 1 + 1) = some (.cells [.bool false] 0) ∧ h2.next ≤ h1.next ∧ ∃ t ∈ tos es other x.2.2, tellsR r round x.2.1 t = false) ?_ ?_ ?_ ?_
    (P := fun _ h' => FrD (fun j => j = L ∨ j = q + 1 + 1 + 1 + 1) h2 h' ∧ ((h'.get L = some (.loop .ready none (setL [p5, p7, p9, p10] [ptr q, ptr (q + 1 + 1), ptr (q + 1 + 1 + 1), ptr (q + 1 + 1 + 1 + 1)]) r_judge_rounds_told_1) ∧ h'.get (q + 1 + 1 + 1 + 1) = some (.cells [.bool false] 0) ∧ toldR r es x other round = true) ∨ (h'.get L = some (.loop .done (some .ret) (setL [p5, p7, p9, p10] [ptr q, ptr (q + 1 + 1), ptr (q + 1 + 1 + 1), ptr (q + 1 + 1 + 1 + 1)]) r_judge_rounds_told_1) ∧ h'.get (q + 1 + 1 + 1 + 1) = some (.cells [.bool false] 0) ∧ toldR r es x other round = false))) ?_) ?_
  · rintro i h1 h3 ⟨q1, q2, q3, q4⟩ hf
    have := q3.next
    refine ⟨(hf.get _ (by omega) (by omega)).trans q1, (hf.get _ (by omega) (by omega)).trans q2, ⟨Nat.le_trans q3.next hf.next, fun j hj hd => (hf.get _ (by omega) (by omega)).trans (q3.get _ hj hd)⟩, q4⟩
  · rintro h1 h3 ⟨q1, q2, q3, q4⟩ hf
    exact ⟨(hf.get _ (by omega) (by omega)).trans q1, (hf.get _ (by omega) (by omega)).trans q2, Nat.le_trans q3 hf.next, q4⟩
  · rintro i v h1 hv ⟨q1, q2, q3, q4⟩ hn
    rw [List.getElem?_map] at hv
    obtain ⟨t, ht, rfl⟩ := Option.map_eq_some_iff.1 hv
    refine told_round r m x round t L q (q + 1 + 1) (q + 1 + 1 + 1) (q + 1 + 1 + 1 + 1) h1 (hm2.fr q3 (by have := hf2.next; omega) (by omega)) (by omega) q1 ((q3.get _ (by omega) (by omega)).trans gm2) ((q3.get _ (by omega) (by omega)).trans gx2) ((q3.get _ (by omega) (by omega)).trans gr2) q2 (by omega) (by omega) (by omega) (by omega) (by omega) (by omega) (by omega) (by omega) (by omega) (by omega) ?_ ?_
    · intro e h' r1 r2 r3
      refine ⟨r1, .inl ⟨rfl, r2, r3, q3.trans r1, fun u hu => ?_⟩⟩
      rw [List.take_add_one, ht] at hu
      rcases List.mem_append.1 hu with hu | hu
      · exact q4 u hu
      · simp at hu; subst hu; exact e
    · intro e h' r1 r2 r3
      exact ⟨r1, .inr ⟨rfl, r2, r3, by have := r1.next; omega, t, List.mem_of_getElem? ht, e⟩⟩
  · exact ⟨gL2, gq2, .refl _ _, by simp⟩
  · intro h' hf hv
    refine ⟨hf, ?_⟩
    rcases hv with ⟨q1, q2, q3, q4⟩ | ⟨q1, q2, q3, t, ht, e⟩
    · refine .inl ⟨q1, q2, ?_⟩
      rw [List.take_length] at q4
      exact List.all_eq_true.2 q4
    · refine .inr ⟨q1, q2, ?_⟩
      rw [Bool.eq_false_iff]
      intro hh
      rw [List.all_eq_true.1 hh t ht] at e; cases e
  · rintro v h' ⟨hf, hv⟩
    have hfn := hf.next
    have hfin : ∀ o o', Fr h ((h'.put L o).put (q + 1 + 1 + 1 + 1) o') := fun o o' => ⟨by simp; have := hf2.next; omega, fun i hi => by
      rw [get_put_ne' (by omega), get_put_ne' (by omega), hf.get _ (by have := hf2.next; omega) (by omega)]; exact hf2.get _ hi⟩
    have hfin' : ∀ o, Fr h (h'.put L o) := fun o => ⟨by simp; have := hf2.next; omega, fun i hi => by
      rw [get_put_ne' (by omega), hf.get _ (by have := hf2.next; omega) (by omega)]; exact hf2.get _ hi⟩
    rcases hv with ⟨q1, q2, q3⟩ | ⟨q1, q2, q3⟩
    · rw [rgP_ready q1, s_judge_rounds_told_0]
      refine OkV.eq (OkV.val (v := .bool true) (h := (h'.put L (.loop .exhausted none (setL [p5, p7, p9, p10] [ptr q, ptr (q + 1 + 1), ptr (q + 1 + 1 + 1), ptr (q + 1 + 1 + 1 + 1)]) r_judge_rounds_told_1)).put (q + 1 + 1 + 1 + 1) (.cells [.bool true] 0)) (by rw [hPd]; exact ⟨by rw [q3], hfin _ _⟩)) ?_
      simp (disch := first | omega | (simp only [new_next, put_next]; done) | (simp only [new_next, put_next]; omega)) [q2]
    · rw [rgP_ret q1]
      refine OkV.eq (OkV.val (v := .bool false) (h := h'.put L (.loop .exhausted (some .ret) (setL [p5, p7, p9, p10] [ptr q, ptr (q + 1 + 1), ptr (q + 1 + 1 + 1), ptr (q + 1 + 1 + 1 + 1)]) r_judge_rounds_told_1)) (by rw [hPd]; exact ⟨by rw [q3], hfin' _⟩)) ?_
      simp (disch := first | omega | (simp only [new_next, put_next]; done) | (simp only [new_next, put_next]; omega)) [q2]
end Go.Ideal.J
set_option linter.unusedSimpArgs false
set_option linter.unusedVariables false
set_option maxRecDepth 10000
set_option maxHeartbeats 2000000
namespace Go.Ideal.J
open Go Go.Ideal
def firstR (r : Int → Int → Option Int) (es : List Ed) (a b round : Int) : Option Ed := (outs es a).find? fun x => toldR r es x b round
theorem find_at {α : Type} {p : α → Bool} : ∀ {l : List α} {i : Nat} {x : α}, l[i]? = some x → (∀ y ∈ l.take i, p y = false) → p x = true → l.find? p = some x
  | [], i, x, h, _, _ => by simp at h
  | a :: l, 0, x, h, _, hx => by
    simp at h; subst h
    rw [List.find?_cons, hx]
  | a :: l, i + 1, x, h, hn, hx => by
    have ha := hn a (by simp)
    rw [List.find?_cons, ha]
    exact find_at (by simpa using h) (fun y hy => hn y (by simp [hy])) hx
theorem find_none {α : Type} {p : α → Bool} {l : List α} (h : ∀ y ∈ l, p y = false) : l.find? p = none := by
  rw [List.find?_eq_none]; intro x hx; rw [h x hx]; simp
def firstV : Option Ed → Value
  | some x => pairV' (edV x) (.bool true)
  | none => pairV' (edV (0, 0, 0)) (.bool false)
where pairV' (a b : Value) : Value := .tuple ⟨[a, b]⟩
noncomputable abbrev slF1 (q : Nat) : Slots := setL [p5, p6, p8, p9, p10, p11] [ptr q, ptr (q + 1), ptr (q + 1 + 1), ptr (q + 1 + 1 + 1), ptr (q + 1 + 1 + 1 + 1), ptr (q + 1 + 1 + 1 + 1 + 1)]

theorem first_round (es : List Ed) (hs : SortedF es) (hsz : es.length ≤ 1000) (st lb : Int) (r : Int → Int → Option Int) (m : Nat) (x : Ed) (other round : Int) (sl : Value) (L q : Nat) (h1 : H) (hrow : Row h1 3 sl (es.map edL)) (hsl : ∀ b o n c, sl = .slice (some ⟨b, o, none⟩) n c → b ≠ L) (hm : MapM h1 m (rV r)) (hml : m < q) (hL : h1.get L = some (.loop .ready none (slF1 q) r_judge_rounds_first_1)) (hLq : q + 6 ≤ L)
    (g0 : h1.get q = some (.cells [.map (some m)] 0)) (g1 : h1.get (q + 1) = some (.cells (gL st lb sl) 0)) (g2 : h1.get (q + 1 + 1) = some (.cells [.int .i64 other] 0)) (g3 : h1.get (q + 1 + 1 + 1) = some (.cells [.int .i64 round] 0)) (g4 : h1.get (q + 1 + 1 + 1 + 1) = some (.cells (edL (0, 0, 0)) 0)) (g5 : h1.get (q + 1 + 1 + 1 + 1 + 1) = some (.cells [.bool false] 0)) (hl : L < h1.next) {P : Value → H → Prop}
    (hP1 : toldR r es x other round = false → ∀ h', FrD (fun j => j = L ∨ j = q + 4 ∨ j = q + 5) h1 h' → h'.get L = some (.loop .ready none (slF1 q) r_judge_rounds_first_1) → h'.get (q + 4) = some (.cells (edL (0, 0, 0)) 0) → h'.get (q + 5) = some (.cells [.bool false] 0) → P (.bool true) h')
    (hP2 : toldR r es x other round = true → ∀ h', FrD (fun j => j = L ∨ j = q + 4 ∨ j = q + 5) h1 h' → h'.get L = some (.loop .done (some .ret) (slF1 q) r_judge_rounds_first_1) → h'.get (q + 4) = some (.cells (edL x) 0) → h'.get (q + 5) = some (.cells [.bool true] 0) → P (.bool false) h') :
    Ret F (.func (.yield L) #[] #[]) [edV x] h1 P := by
  refine Ret.round hL ?_
  rw [s_judge_rounds_first_1]
  simp (disch := first | omega | (simp only [new_next, put_next]; done) | (simp only [new_next, put_next]; omega)) []
  obtain ⟨h2, eh2⟩ : ∃ h2, h2 = (h1.new (.cells (edL x) 0)).put L (.loop .busy none (slF1 q) r_judge_rounds_first_1) := ⟨_, rfl⟩
  rw [busyK_eq (by rw [get_new_ne (by omega)]; exact hL), s_judge_rounds_first_2]
  have hf2 : FrD (fun j => j = L) h1 h2 := by rw [eh2]; exact ((FrD.refl (fun j => j = L) _).new _).put (.inr rfl) _
  have hn2 : h2.next = h1.next + 1 := by rw [eh2]; simp
  have gL2 : h2.get L = some (.loop .busy none (slF1 q) r_judge_rounds_first_1) := by rw [eh2, get_put_eq rfl]
  have gx2 : h2.get h1.next = some (.cells (edL x) 0) := by rw [eh2, get_put_ne' (by omega), get_new_eq rfl]
  have k0 := (hf2.get _ (by omega) (by omega)).trans g0
  have k1 := (hf2.get _ (by omega) (by omega)).trans g1
  have k2' := (hf2.get _ (by omega) (by omega)).trans g2
  have k3 := (hf2.get _ (by omega) (by omega)).trans g3
  have k4 := (hf2.get _ (by omega) (by omega)).trans g4
  have k5 := (hf2.get _ (by omega) (by omega)).trans g5
  have hv := hrow.slvM
  obtain ⟨h3, e3, hf3⟩ := told_ok es hs hsz st lb r m x other round sl h2 (hrow.frD hf2 hsl) (hm.fr hf2 (by omega) (by omega)) (by omega)
  have hfn3 := hf3.next
  have gL3 := (hf3.get _ (by omega)).trans gL2
  have gx3 := (hf3.get _ (by omega)).trans gx2
  have j4 := (hf3.get _ (by omega)).trans k4
  have j5 := (hf3.get _ (by omega)).trans k5
  have hf13 : FrD (fun j => j = L ∨ j = q + 4 ∨ j = q + 5) h1 h3 := ⟨by omega, fun i hi hd => (hf3.get _ (by omega)).trans (hf2.get _ hi (by omega))⟩
  rw [← eh2]
  cases ht : toldR r es x other round with
  | false =>
    rw [ht] at e3
    have : OkV (fin L none h3) P := by
      rw [fin_none gL3]
      exact OkV.val (hP1 ht _ (hf13.put (.inr (.inl rfl)) _) (get_put_eq rfl) (by rw [get_put_ne' (by omega)]; exact j4) (by rw [get_put_ne' (by omega)]; exact j5))
    refine OkV.eq this ?_
    simp (disch := first | omega | (simp only [new_next, put_next]; done) | (simp only [new_next, put_next]; omega)) [k0, k1, k2', k3, gx2, hv.clean, hv.take, e3]
  | true =>
    rw [ht] at e3
    have : OkV (fin L (some .ret) ((h3.put (q + 1 + 1 + 1 + 1) (.cells (edL x) 0)).put (q + 1 + 1 + 1 + 1 + 1) (.cells [.bool true] 0))) P := by
      rw [fin_some (by rw [get_put_ne' (by omega), get_put_ne' (by omega)]; exact gL3)]
      exact OkV.val (hP2 ht _ (((hf13.put (.inr (.inr (.inl rfl))) _).put (.inr (.inr (.inr rfl))) _).put (.inr (.inl rfl)) _) (get_put_eq rfl) (by rw [get_put_ne' (by omega), get_put_ne' (by omega), get_put_eq rfl]) (by rw [get_put_ne' (by omega), get_put_eq rfl]))
    refine OkV.eq this ?_
    simp (disch := first | omega | (simp only [new_next, put_next]; done) | (simp only [new_next, put_next]; omega)) [k0, k1, k2', k3, gx2, hv.clean, hv.take, e3, gx3, j4, j5]

theorem first_ok (es : List Ed) (hs : SortedF es) (hsz : es.length ≤ 1000) (st lb : Int) (r : Int → Int → Option Int) (m : Nat) (a b round : Int) (sl : Value) (h : H) (hrow : Row h 3 sl (es.map edL)) (hm : MapM h m (rV r)) (hml : m < h.next) :
    ∃ h', callI F (fnV n_judge_rounds_first) [.map (some m), gV st lb sl, .int .i64 a, .int .i64 b, .int .i64 round] h = some (firstV (firstR r es a b round), h') ∧ Fr h h' := by
  suffices hr : Ret F (fnV n_judge_rounds_first) [.map (some m), gV st lb sl, .int .i64 a, .int .i64 b, .int .i64 round] h fun v h' => v = firstV (firstR r es a b round) ∧ Fr h h' by
    obtain ⟨v, h', e, rfl, hf⟩ := hr; exact ⟨h', e, hf⟩
  obtain ⟨P, hPd⟩ : ∃ P : Value → H → Prop, P = fun v h' => v = firstV (firstR r es a b round) ∧ Fr h h' := ⟨_, rfl⟩
  rw [← hPd]
  refine Ret.fn F_judge_rounds_first 5 (by decide) ?_
  rw [s_judge_rounds_first]
  have hv := hrow.slvM
  obtain ⟨q, eq⟩ : ∃ q, q = h.next := ⟨_, rfl⟩
  obtain ⟨h2, eh2⟩ : ∃ h2, h2 = ((((((((h.new (.cells [.map (some m)] 0)).new (.cells (gL st lb sl) 0)).new (.cells [.int .i64 b] 0)).new (.cells [.int .i64 round] 0)).new (.cells (edL (0, 0, 0)) 0)).new (.cells [.bool false] 0)).new (.cells (gL st lb sl) 0)).new (.cells [.int .i64 a] 0)).new (.loop .ready none (slF1 h.next) r_judge_rounds_first_1) := ⟨_, rfl⟩
  simp (disch := first | omega | (simp only [new_next, put_next]; done) | (simp only [new_next, put_next]; omega)) [hv.clean, hv.take, steps_ok]
  rw [← eh2, ← eq]
  have hf2 : Fr h h2 := by rw [eh2]; exact ((((((((Fr.new _ _).newR _).newR _).newR _).newR _).newR _).newR _).newR _).newR _
  have hn2 : h2.next = q + 9 := by rw [eh2, eq]; simp
  have k0 : h2.get q = some (.cells [.map (some m)] 0) := by rw [eh2, eq]; simp (disch := first | omega | (simp only [new_next, put_next]; done) | (simp only [new_next, put_next]; omega)) []
  have k1 : h2.get (q + 1) = some (.cells (gL st lb sl) 0) := by rw [eh2, eq]; simp (disch := first | omega | (simp only [new_next, put_next]; done) | (simp only [new_next, put_next]; omega)) []
  have k2' : h2.get (q + 1 + 1) = some (.cells [.int .i64 b] 0) := by rw [eh2, eq]; simp (disch := first | omega | (simp only [new_next, put_next]; done) | (simp only [new_next, put_next]; omega)) []
  have k3 : h2.get (q + 1 + 1 + 1) = some (.cells [.int .i64 round] 0) := by rw [eh2, eq]; simp (disch := first | omega | (simp only [new_next, put_next]; done) | (simp only [new_next, put_next]; omega)) []
  have k4 : h2.get (q + 1 + 1 + 1 + 1) = some (.cells (edL (0, 0, 0)) 0) := by rw [eh2, eq]; simp (disch := first | omega | (simp only [new_next, put_next]; done) | (simp only [new_next, put_next]; omega)) []
  have k5 : h2.get (q + 1 + 1 + 1 + 1 + 1) = some (.cells [.bool false] 0) := by rw [eh2, eq]; simp (disch := first | omega | (simp only [new_next, put_next]; done) | (simp only [new_next, put_next]; omega)) []
  have gg2 : h2.get (q + 1 + 1 + 1 + 1 + 1 + 1) = some (.cells (gL st lb sl) 0) := by rw [eh2, eq]; simp (disch := first | omega | (simp only [new_next, put_next]; done) | (simp only [new_next, put_next]; omega)) []
  have gf2 : h2.get (q + 1 + 1 + 1 + 1 + 1 + 1 + 1) = some (.cells [.int .i64 a] 0) := by rw [eh2, eq]; simp (disch := first | omega | (simp only [new_next, put_next]; done) | (simp only [new_next, put_next]; omega)) []
  have gL2 : h2.get (q + 1 + 1 + 1 + 1 + 1 + 1 + 1 + 1) = some (.loop .ready none (slF1 q) r_judge_rounds_first_1) := by rw [eh2, eq]; simp (disch := first | omega | (simp only [new_next, put_next]; done) | (simp only [new_next, put_next]; omega)) []
  obtain ⟨L, eL⟩ : ∃ L, L = q + 1 + 1 + 1 + 1 + 1 + 1 + 1 + 1 := ⟨_, rfl⟩
  rw [← eL] at gL2 ⊢
  have hm2 := hm.fr (D := fun _ => False) hf2.D hml (by simp)
  refine OkV.call (steps_run es hs hsz a st lb (.func (.yield L) #[] #[]) sl (q + 1 + 1 + 1 + 1 + 1 + 1) (q + 1 + 1 + 1 + 1 + 1 + 1 + 1) h2 (M := fun j => j = L ∨ j = q + 4 ∨ j = q + 5) (hrow.fr hf2) (by omega) (by omega) (fun b o n c e => by have := hrow.lt e; omega) (by omega) gg2 (by omega) gf2
    (fun i h1 => h1.get L = some (.loop .ready none (slF1 q) r_judge_rounds_first_1) ∧ h1.get (q + 4) = some (.cells (edL (0, 0, 0)) 0) ∧ h1.get (q + 5) = some (.cells [.bool false] 0) ∧ FrD (fun j => j = L ∨ j = q + 4 ∨ j = q + 5) h2 h1 ∧ ∀ x ∈ (outs es a).take i, toldR r es x b round = false)
    (fun h1 => ∃ x, h1.get L = some (.loop .done (some .ret) (slF1 q) r_judge_rounds_first_1) ∧ h1.get (q + 4) = some (.cells (edL x) 0) ∧ h1.get (q + 5) = some (.cells [.bool true] 0) ∧ firstR r es a b round = some x) h2.next (Nat.le_refl _) ?_ ?_ ?_
    (P := fun _ h' => FrD (fun j => j = L ∨ j = q + 4 ∨ j = q + 5) h2 h' ∧ ((h'.get L = some (.loop .ready none (slF1 q) r_judge_rounds_first_1) ∧ h'.get (q + 4) = some (.cells (edL (0, 0, 0)) 0) ∧ h'.get (q + 5) = some (.cells [.bool false] 0) ∧ firstR r es a b round = none) ∨ ∃ x, h'.get L = some (.loop .done (some .ret) (slF1 q) r_judge_rounds_first_1) ∧ h'.get (q + 4) = some (.cells (edL x) 0) ∧ h'.get (q + 5) = some (.cells [.bool true] 0) ∧ firstR r es a b round = some x)) ?_) ?_
  · rintro i h1 h3 ⟨q1, q2, q3, q4, q5⟩ hf
    have := q4.next
    exact ⟨(hf.get _ (by omega)).trans q1, (hf.get _ (by omega)).trans q2, (hf.get _ (by omega)).trans q3, q4.trans hf.D, q5⟩
  · rintro i v h1 hv ⟨q1, q2, q3, q4, q5⟩ hn
    rw [List.getElem?_map] at hv
    obtain ⟨x, hx, rfl⟩ := Option.map_eq_some_iff.1 hv
    refine first_round es hs hsz st lb r m x b round sl L q h1 ((hrow.fr hf2).frD q4 (fun b o n c e => by have := hrow.lt e; omega)) (fun b o n c e => by have := hrow.lt e; omega) (hm2.fr q4 (by omega) (by omega)) (by omega) q1 (by omega) ((q4.get _ (by omega) (by omega)).trans k0) ((q4.get _ (by omega) (by omega)).trans k1) ((q4.get _ (by omega) (by omega)).trans k2') ((q4.get _ (by omega) (by omega)).trans k3) q2 q3 (by omega) ?_ ?_
    · intro e h' r1 r2 r3 r4
      refine ⟨r1, .inl ⟨rfl, r2, r3, r4, q4.trans r1, fun y hy => ?_⟩⟩
      rw [List.take_add_one, hx] at hy
      rcases List.mem_append.1 hy with hy | hy
      · exact q5 y hy
      · simp at hy; subst hy; exact e
    · intro e h' r1 r2 r3 r4
      exact ⟨r1, .inr ⟨rfl, x, r2, r3, r4, find_at hx q5 e⟩⟩
  · exact ⟨gL2, k4, k5, .refl _ _, by simp⟩
  · intro h' hf hv
    refine ⟨hf, ?_⟩
    rcases hv with ⟨q1, q2, q3, q4, q5⟩ | ⟨x, q1, q2, q3, q4⟩
    · rw [List.take_length] at q5
      exact .inl ⟨q1, q2, q3, find_none q5⟩
    · exact .inr ⟨x, q1, q2, q3, q4⟩
  · rintro v h' ⟨hf, hv⟩
    have hfn := hf.next
    have hfin : ∀ o, Fr h (h'.put L o) := fun o => ⟨by simp; have := hf2.next; omega, fun i hi => by
      rw [get_put_ne' (by omega), hf.get _ (by have := hf2.next; omega) (by omega)]; exact hf2.get _ hi⟩
    have hfin' : ∀ o o1 o2, Fr h (((h'.put L o).put (q + 1 + 1 + 1 + 1) o1).put (q + 1 + 1 + 1 + 1 + 1) o2) := fun o o1 o2 => ((hfin o).put (by omega) _).put (by omega) _
    rcases hv with ⟨q1, q2, q3, q4⟩ | ⟨x, q1, q2, q3, q4⟩
    · rw [rgP_ready q1, s_judge_rounds_first_0]
      refine OkV.eq (OkV.val (v := firstV none) (h := ((h'.put L (.loop .exhausted none (slF1 q) r_judge_rounds_first_1)).put (q + 1 + 1 + 1 + 1) (.cells (edL (0, 0, 0)) 0)).put (q + 1 + 1 + 1 + 1 + 1) (.cells [.bool false] 0)) (by rw [hPd]; exact ⟨by rw [q4], hfin' _ _ _⟩)) ?_
      have q2' : h'.get (q + 1 + 1 + 1 + 1) = some (.cells (edL (0, 0, 0)) 0) := q2
      have q3' : h'.get (q + 1 + 1 + 1 + 1 + 1) = some (.cells [.bool false] 0) := q3
      simp (disch := first | omega | (simp only [new_next, put_next]; done) | (simp only [new_next, put_next]; omega)) [q2', q3', fillL, firstV, firstV.pairV']
    · rw [rgP_ret q1]
      refine OkV.eq (OkV.val (v := firstV (some x)) (h := h'.put L (.loop .exhausted (some .ret) (slF1 q) r_judge_rounds_first_1)) (by rw [hPd]; exact ⟨by rw [q4], hfin _⟩)) ?_
      have q2' : h'.get (q + 1 + 1 + 1 + 1) = some (.cells (edL x) 0) := q2
      have q3' : h'.get (q + 1 + 1 + 1 + 1 + 1) = some (.cells [.bool true] 0) := q3
      simp (disch := first | omega | (simp only [new_next, put_next]; done) | (simp only [new_next, put_next]; omega)) [q2', q3', fillL, firstV, firstV.pairV']
end Go.Ideal.J
set_option linter.unusedSimpArgs false
set_option linter.unusedVariables false
set_option maxRecDepth 10000
set_option maxHeartbeats 2000000
namespace Go.Ideal.J
open Go Go.Ideal
/-- what is told apart in a round. -/
def condR (r : Int → Int → Option Int) (es : List Ed) (n : Int) (a b : Int) : Bool := (r a b).isNone && ((firstR r es a b (n - 1)).isSome || (firstR r es b a (n - 1)).isSome)
def fndA (r : Int → Int → Option Int) (es : List Ed) (n : Int) (a b : Nat) : List (Int × Int) := ((List.range b).filter fun (b : Nat) => condR r es n (a : Int) (b : Int)).map fun (b : Nat) => ((a : Int), (b : Int))
def fnd (r : Int → Int → Option Int) (es : List Ed) (n : Int) (a : Nat) : List (Int × Int) := (List.range a).flatMap fun a => fndA r es n a a
theorem fndA_succ (r : Int → Int → Option Int) (es : List Ed) (n : Int) (a b : Nat) : fndA r es n a (b + 1) = fndA r es n a b ++ if condR r es n a b then [((a : Int), (b : Int))] else [] := by
  unfold fndA
  rw [List.range_succ, List.filter_append, List.map_append]
  congr 1
  by_cases e : condR r es n (a : Int) (b : Int) = true
  · rw [if_pos e]; simp [e]
  · rw [if_neg e]; simp [e]
theorem fnd_succ (r : Int → Int → Option Int) (es : List Ed) (n : Int) (a : Nat) : fnd r es n (a + 1) = fnd r es n a ++ fndA r es n a a := by
  unfold fnd
  rw [List.range_succ, List.flatMap_append]
  simp
theorem fndA_len (r : Int → Int → Option Int) (es : List Ed) (n : Int) (a b : Nat) : (fndA r es n a b).length ≤ b := by
  unfold fndA
  rw [List.length_map]
  exact Nat.le_trans (List.length_filter_le _ _) (by simp)
theorem fnd_len (r : Int → Int → Option Int) (es : List Ed) (n : Int) {N : Nat} : ∀ a, a ≤ N → (fnd r es n a).length ≤ a * N
  | 0, _ => by simp [fnd]
  | a + 1, h => by
    rw [fnd_succ, List.length_append, Nat.succ_mul]
    have := fnd_len r es n (N := N) a (by omega)
    have := fndA_len r es n a a
    omega
abbrev prL (p : Int × Int) : List Value := [.int .i64 p.1, .int .i64 p.2]

theorem apart5 (es : List Ed) (hs : SortedF es) (hsz : es.length ≤ 1000) (N : Nat) (hN : N ≤ 200) (lb : Int) (r : Int → Int → Option Int) (n : Int) (hn : 1 ≤ n ∧ n ≤ 1000000) (m pg : Nat) (sl : Value) (a : Nat) (haN : a < N) (rows : List (Int × Int)) (hrows : rows.length ≤ 100000) (h0 : H) (hrow : Row h0 3 sl (es.map edL)) (hm : MapM h0 m (rV r)) (hml : m < h0.next) (hgg : h0.get pg = some (.cells (gL (N : Int) lb sl) 0)) (hpg : pg < h0.next) (lo : Nat) (hlo : lo ≤ h0.next) (hmlo : m < lo) (hpglo : pg < lo) (hsllo : ∀ b o n c, sl = .slice (some ⟨b, o, none⟩) n c → b < lo) {P : Value → H → Prop}
    (hP : ∀ h' fv ob, FrD (fun j => lo ≤ j) h0 h' → Grow h' 2 fv ((rows ++ fndA r es n a a).map prL) ob → (∀ q, ob = some q → lo ≤ q) → OkV (sh (rI F) c_judge_apart_4 (K_judge_apart_4 (rI F)) (setL [p1, p3, p4, p5, p18, p19] [ptr pg, .map (some m), .int .i64 n, fv, .int .i64 (N : Int), .int .i64 (a : Int)]) h') P) :
    ∀ (k b : Nat) (h : H) (fv : Value) (ob : Option Nat), b + k = a → FrD (fun j => lo ≤ j) h0 h → Grow h 2 fv ((rows ++ fndA r es n a b).map prL) ob → (∀ q, ob = some q → lo ≤ q) →
    OkV (sh (rI F) c_judge_apart_5 (K_judge_apart_5 (rI F)) (setL [p1, p3, p4, p5, p6, p18, p19, p22, p23] [ptr pg, .map (some m), .int .i64 n, fv, .int .i64 (a : Int), .int .i64 (N : Int), .int .i64 (a : Int), .int .i64 (a : Int), .int .i64 (b : Int)]) h) P := by
  intro k
  induction k with
  | zero =>
    intro b h fv ob hb hf hg hob
    have e : b = a := by omega
    subst e
    rw [s_judge_apart_5]
    simp (disch := first | omega | (simp only [new_next, put_next]; done) | (simp only [new_next, put_next]; omega)) []
    exact hP h fv ob hf hg hob
  | succ k ih =>
    intro b h fv ob hb hf hg hob
    have hba : b < a := by omega
    have hfn := hf.next
    have hsucc := fndA_succ r es n a b
    have hv := hrow.slvM
    have hm1 := hm.fr hf hml (by omega)
    have hrow1 := hrow.frD hf (fun b o n c e => by have := hsllo b o n c e; omega)
    have gpg := (hf.get _ hpg (by omega)).trans hgg
    have hlk := look_ok hm1 (.int .i64 0) (a : Int) (b : Int)
    rw [s_judge_apart_5]
    -- what comes next, with nothing found
    have skip : condR r es n a b = false → ∀ h', Fr h h' → OkV (sh (rI F) c_judge_apart_6 (K_judge_apart_6 (rI F)) (setL [p1, p3, p4, p5, p6, p18, p19, p22, p23] [ptr pg, .map (some m), .int .i64 n, fv, .int .i64 (a : Int), .int .i64 (N : Int), .int .i64 (a : Int), .int .i64 (a : Int), .int .i64 (b : Int)]) h') P := by
      intro hc h' hf'
      rw [s_judge_apart_6]
      have := ih (b + 1) h' fv ob (by omega) (hf.trans hf'.D) (by rw [hsucc, hc]; simpa using hg.fr hf') hob
      refine OkV.eq (this.lp (l_judge_apart_5 F _ _ _ _ _ _ _ _ _ _)) ?_
      simp (disch := first | omega | (simp only [new_next, put_next]; done) | (simp only [new_next, put_next]; omega)) [i64_add]
    cases hr : r a b with
    | some v =>
      simp only [rV, hr, Option.map_none, Option.map_some, Option.getD_none, Option.getD_some, Option.isSome_none, Option.isSome_some] at hlk
      refine OkV.eq (skip (by simp [condR, hr]) h (.refl _)) ?_
      simp (disch := first | omega | (simp only [new_next, put_next]; done) | (simp only [new_next, put_next]; omega)) [hba, hlk, fillL]
    | none =>
      simp only [rV, hr, Option.map_none, Option.map_some, Option.getD_none, Option.getD_some, Option.isSome_none, Option.isSome_some] at hlk
      obtain ⟨h1, e1, hf1⟩ := first_ok es hs hsz (N : Int) lb r m (a : Int) (b : Int) (n - 1) sl h hrow1 hm1 (by omega)
      have hfn1 := hf1.next
      have take : condR r es n a b = true → ∀ h', Fr h h' → OkV (sh (rI F) c_judge_apart_7 (K_judge_apart_7 (rI F)) (setL [p1, p3, p4, p5, p6, p7, p11, p18, p19, p22, p23] [ptr pg, .map (some m), .int .i64 n, fv, .int .i64 (a : Int), .int .i64 (b : Int), .bool true, .int .i64 (N : Int), .int .i64 (a : Int), .int .i64 (a : Int), .int .i64 (b : Int)]) h') P := by
        intro hc h' hf'
        rw [s_judge_apart_7]
        simp (disch := first | omega | (simp only [new_next, put_next]; done) | (simp only [new_next, put_next]; omega)) [fillL, repeatL]
        obtain ⟨h2, eh2⟩ : ∃ h2, h2 = h'.new (.cells [.int .i64 (a : Int), .int .i64 (b : Int)] 0) := ⟨_, rfl⟩
        have hf2 : Fr h h2 := by rw [eh2]; exact hf'.newR _
        have hn2 : h2.next = h'.next + 1 := by rw [eh2]; simp
        have hfn' := hf'.next
        have hfl := fndA_len r es n a b
        obtain ⟨h3, fv', ea, hg3, hn3, hf3⟩ := append_one (h := h2) (sz := 2) (bytes := 16) (r := prL ((a : Int), (b : Int))) (b := h'.next) (e := 0) (by omega) (by decide) (hg.fr hf2) (by rw [eh2]; simp) rfl rfl rfl (by rw [List.length_map, List.length_append]; omega)
        rw [← eh2, ea]
        simp (disch := first | omega | (simp only [new_next, put_next]; done) | (simp only [new_next, put_next]; omega)) []
        rw [s_judge_apart_6]
        have := ih (b + 1) h3 fv' (some h2.next) (by omega) ⟨by omega, fun i hi hd => (hf3.get _ (by omega) (fun e => hd (hob _ e))).trans ((hf2.get _ (by omega)).trans (hf.get _ hi hd))⟩ (by rw [hsucc, if_pos hc, ← List.append_assoc, List.map_append]; exact hg3) (fun q e => by cases e; omega)
        refine OkV.eq (this.lp (l_judge_apart_5 F _ _ _ _ _ _ _ _ _ _)) ?_
        simp (disch := first | omega | (simp only [new_next, put_next]; done) | (simp only [new_next, put_next]; omega)) [i64_add]
      have leave : condR r es n a b = false → ∀ h', Fr h h' → OkV (sh (rI F) c_judge_apart_7 (K_judge_apart_7 (rI F)) (setL [p1, p3, p4, p5, p6, p7, p11, p18, p19, p22, p23] [ptr pg, .map (some m), .int .i64 n, fv, .int .i64 (a : Int), .int .i64 (b : Int), .bool false, .int .i64 (N : Int), .int .i64 (a : Int), .int .i64 (a : Int), .int .i64 (b : Int)]) h') P := by
        intro hc h' hf'
        rw [s_judge_apart_7]
        simp (disch := first | omega | (simp only [new_next, put_next]; done) | (simp only [new_next, put_next]; omega)) []
        exact skip hc h' hf'
      cases h1c : firstR r es a b (n - 1) with
      | some x =>
        rw [h1c] at e1
        have hf1' : Fr h (h1.new (.cells (edL x) 0)) := hf1.newR _
        refine OkV.eq (take (by simp [condR, hr, h1c]) _ hf1') ?_
        simp only [firstV, firstV.pairV'] at e1
        simp (disch := first | omega | (simp only [new_next, put_next]; done) | (simp only [new_next, put_next]; omega)) [hba, hlk, fillL, gpg, hv.clean, hv.take, i64_sub, e1]
      | none =>
        rw [h1c] at e1
        simp only [firstV, firstV.pairV'] at e1
        have hf1' : Fr h (h1.new (.cells (edL (0, 0, 0)) 0)) := hf1.newR _
        obtain ⟨h2, e2, hf2⟩ := first_ok es hs hsz (N : Int) lb r m (b : Int) (a : Int) (n - 1) sl (h1.new (.cells (edL (0, 0, 0)) 0)) (hrow1.fr hf1') (hm1.fr (D := fun _ => False) hf1'.D (by omega) (by simp)) (by simp; omega)
        have gpg1 := (hf1.get _ (by omega)).trans gpg
        cases h2c : firstR r es b a (n - 1) with
        | some x =>
          rw [h2c] at e2
          simp only [firstV, firstV.pairV'] at e2
          refine OkV.eq (take (by simp [condR, hr, h1c, h2c]) _ (hf1'.trans hf2)) ?_
          simp (disch := first | omega | (simp only [new_next, put_next]; done) | (simp only [new_next, put_next]; omega)) [hba, hlk, fillL, gpg, gpg1, hv.clean, hv.take, i64_sub, e1, e2]
        | none =>
          rw [h2c] at e2
          simp only [firstV, firstV.pairV'] at e2
          refine OkV.eq (leave (by simp [condR, hr, h1c, h2c]) _ (hf1'.trans hf2)) ?_
          simp (disch := first | omega | (simp only [new_next, put_next]; done) | (simp only [new_next, put_next]; omega)) [hba, hlk, fillL, gpg, gpg1, hv.clean, hv.take, i64_sub, e1, e2]
end Go.Ideal.J
