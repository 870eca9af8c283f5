/- A part of the proof: the ideal machine, and what the functions of the program answer over it. -/
import Derived.Test.YtanaepeilcjhcaaProg
import Derived.Test.YtanaepeilcjhcaaC
set_option linter.unusedSimpArgs false
set_option linter.unusedVariables false
noncomputable section
namespace Go.Ideal.X
open Go Go.Ideal Go.Ideal.J
set_option maxRecDepth 100000
set_option linter.unusedVariables false
def T_judge_Weak (X : Rn) (args : List Value) (h : H) : Option Out :=
    uc args fun t0 args => un args (k2 (some (newPtr h (cellsL t0))) fun t1 h1 =>
    k2 (some (newPtr h1 [(.int .i64 0), (.int .i64 0), (.slice none 0 0)])) fun t2 h2 =>
    k2 (some ((.int .i64 0), h2)) fun t3 h3 =>
    k2 (vLoadN 3 t1 h3) fun t5 h4 =>
    k2 (X.call (.func (.func n_judge_Check) #[] #[]) [t5] h4) fun t6 h5 =>
    k2 (vBin .neq .other t6 (.int .i64 0) h5) fun t7 h6 =>
    br t7
      (k2 ((fillL [(.int .i64 0), (.int .i64 0), (.slice none 0 0)] []).map fun c => (Value.agg ⟨c⟩, h6)) fun t8 h7 =>
    k2 (vStore 3 t2 t8 h7) fun _ h8 =>
    k2 (some ((.int .i64 2), h8)) fun t3 h9 =>
    (vRes (some 3) t2 h9).bind fun r0 => some (.val (tupleOf [r0, t3]) h9))
      (k2 (vLoadN 3 t1 h6) fun t9 h10 =>
    k2 (X.call (.func (.func n_judge_weak) #[] #[]) [t9] h10) fun t10 h11 =>
    k2 (some (newPtr h11 [(.int .i64 0), (.int .i64 0), (.slice none 0 0)])) fun t4 h12 =>
    k2 (vStore 3 t4 t10 h12) fun _ h13 =>
    k2 (vField 2 t4 h13) fun t11 h14 =>
    k2 (vLoad1 t11 h14) fun t12 h15 =>
    k2 (bltV h15 .len [t12]) fun t13 h16 =>
    k2 (vBin .gtr .other t13 (.int .i64 400) h16) fun t14 h17 =>
    br t14
      (k2 ((fillL [(.int .i64 0), (.int .i64 0), (.slice none 0 0)] []).map fun c => (Value.agg ⟨c⟩, h17)) fun t15 h18 =>
    k2 (vStore 3 t2 t15 h18) fun _ h19 =>
    k2 (some ((.int .i64 3), h19)) fun t3 h20 =>
    (vRes (some 3) t2 h20).bind fun r0 => some (.val (tupleOf [r0, t3]) h20))
      (k2 (vLoadN 3 t4 h17) fun t16 h21 =>
    k2 (vStore 3 t2 t16 h21) fun _ h22 =>
    k2 (some ((.int .i64 0), h22)) fun t3 h23 =>
    (vRes (some 3) t2 h23).bind fun r0 => some (.val (tupleOf [r0, t3]) h23))))
def x_judge_Weak : Rn → List Value → H → Option Out := T_judge_Weak
theorem e_judge_Weak : ((fun X args h => shFunc X 1 f_judge_Weak args h) : Rn → List Value → H → Option Out) = x_judge_Weak := by kernel_rfl
def T_judge_Check_0 (X : Rn) (h : H) : Option Out :=
    k2 (some ((.int .i64 0), h)) fun t2 h1 =>
    some (.val (tupleOf [t2]) h1)
def x_judge_Check_0 : Rn → H → Option Out := T_judge_Check_0
theorem e_judge_Check_0 : ((fun X h => sh X c_judge_Check_0 (KZ_judge_Check_0 X) (setL [] []) h) : Rn → H → Option Out) = x_judge_Check_0 := by kernel_rfl
def T_judge_Check_1 (i_judge_Check_0 : Rn → H → Option Out) (X : Rn) (z_1 : Z) (t1 t30 t31 t32 : Value) (h : H) : Option Out :=
    k2 (vBin .lss .other t32 t31 h) fun t33 h1 =>
    br t33
      (k2 (some (t32, h1)) fun t34 h2 =>
    k2 (vIndex 3 t30 t32 h2) fun t35 h3 =>
    k2 (vLoadN 3 t35 h3) fun t36 h4 =>
    k2 (some (newPtr h4 [(.int .i64 0), (.int .i64 0), (.int .i64 0)])) fun t4 h5 =>
    k2 (some (t34, h5)) fun t3 h6 =>
    k2 (vStore 3 t4 t36 h6) fun _ h7 =>
    k2 (vField 0 t4 h7) fun t37 h8 =>
    k2 (rdF (fun b => vLoad1 t37 b) 0 h8 [(0, h7)]) fun t38 h9 =>
    k2 (vField 1 t4 h9) fun t39 h10 =>
    k2 (rdF (fun b => vLoad1 t39 b) 0 h10 [(0, h7)]) fun t40 h11 =>
    k2 (vField 2 t4 h11) fun t41 h12 =>
    k2 (rdF (fun b => vLoad1 t41 b) 0 h12 [(0, h7)]) fun t42 h13 =>
    k2 (bltV h13 .min [t38, t40, t42]) fun t43 h14 =>
    k2 (vBin .lss .other t43 (.int .i64 0) h14) fun t44 h15 =>
    k2 (some (t44, h15)) fun t45 h16 =>
    k2 (gd t45 false h16 (vField 0 t4 h16)) fun t46 h17 =>
    k2 (gd t45 false h17 (rdF (fun b => vLoad1 t46 b) 0 h17 [(0, h7)])) fun t47 h18 =>
    k2 (gd t45 false h18 (vField 1 t4 h18)) fun t48 h19 =>
    k2 (gd t45 false h19 (rdF (fun b => vLoad1 t48 b) 0 h19 [(0, h7)])) fun t49 h20 =>
    k2 (gd t45 false h20 (bltV h20 .max [t47, t49])) fun t50 h21 =>
    k2 (gd t45 false h21 (vField 0 t1 h21)) fun t51 h22 =>
    k2 (gd t45 false h22 (rdF (fun b => vLoad1 t51 b) 0 h22 [(0, h7)])) fun t52 h23 =>
    k2 (gd t45 false h23 (vBin .geq .other t50 t52 h23)) fun t53 h24 =>
    k2 (vPick t45 (.bool true) t53 h24) fun t54 h25 =>
    k2 (some (t54, h25)) fun t55 h26 =>
    k2 (gd t55 false h26 (vField 2 t4 h26)) fun t56 h27 =>
    k2 (gd t55 false h27 (rdF (fun b => vLoad1 t56 b) 0 h27 [(0, h7)])) fun t57 h28 =>
    k2 (gd t55 false h28 (vField 1 t1 h28)) fun t58 h29 =>
    k2 (gd t55 false h29 (rdF (fun b => vLoad1 t58 b) 0 h29 [(0, h7)])) fun t59 h30 =>
    k2 (gd t55 false h30 (vBin .geq .other t57 t59 h30)) fun t60 h31 =>
    k2 (vPick t55 (.bool true) t60 h31) fun t61 h32 =>
    k2 (some (t61, h32)) fun t62 h33 =>
    k2 (gd t62 false h33 (some (t3, h33))) fun t63 h34 =>
    k2 (gd t62 false h34 (vBin .gtr .other t63 (.int .i64 0) h34)) fun t64 h35 =>
    k2 (gd t62 false h35 (some (t64, h35))) fun t65 h36 =>
    k2 (gd t65 true h36 (vField 2 t1 h36)) fun t66 h37 =>
    k2 (gd t65 true h37 (rdF (fun b => vLoad1 t66 b) 0 h37 [(0, h7)])) fun t67 h38 =>
    k2 (gd t65 true h38 (some (t3, h38))) fun t68 h39 =>
    k2 (gd t65 true h39 (vBin .sub .other t68 (.int .i64 1) h39)) fun t69 h40 =>
    k2 (gd t65 true h40 (vIndex 3 t67 t69 h40)) fun t70 h41 =>
    k2 (gd t65 true h41 (rdF (fun b => vLoadN 3 t70 b) 0 h41 [(0, h7)])) fun t71 h42 =>
    k2 (gd t65 true h42 (rdF (fun b => vLoadN 3 t4 b) 0 h42 [(0, h7)])) fun t72 h43 =>
    k2 (gd t65 true h43 (X.call (.func (.func n_judge_compare) #[] #[]) [t71, t72] h43)) fun t73 h44 =>
    k2 (gd t65 true h44 (vBin .geq .other t73 (.int .i64 0) h44)) fun t74 h45 =>
    k2 (gd t62 false h45 (vPick t65 t74 (.bool false) h45)) fun t75 h46 =>
    k2 (vPick t62 (.bool true) t75 h46) fun t76 h47 =>
    br t76
      (k2 (some ((.int .i64 2), h47)) fun t2 h48 =>
    some (.val (tupleOf [t2]) h48))
      (k2 (vBin .add .other t32 (.int .i64 1) h47) fun t77 h49 =>
    k2 (some (t77, h49)) fun t32_50 h51 =>
    z_1 [t1, t30, t31, t32_50] h51))
      (i_judge_Check_0 X h1)
def x_judge_Check_1 : Rn → Z → Value → Value → Value → Value → H → Option Out := T_judge_Check_1 x_judge_Check_0
theorem e_judge_Check_1 : ((fun X z_1 t1 t30 t31 t32 h => sh X c_judge_Check_1 (KZ_judge_Check_1 X z_1) (setL [p1, p30, p31, p32] [t1, t30, t31, t32]) h) : Rn → Z → Value → Value → Value → Value → H → Option Out) = x_judge_Check_1 := (show ((fun X z_1 t1 t30 t31 t32 h => sh X c_judge_Check_1 (KZ_judge_Check_1 X z_1) (setL [p1, p30, p31, p32] [t1, t30, t31, t32]) h) : Rn → Z → Value → Value → Value → Value → H → Option Out) = T_judge_Check_1 (fun X h => sh X c_judge_Check_0 (KZ_judge_Check_0 X) (setL [] []) h) by kernel_rfl).trans (by rw [e_judge_Check_0]; rfl)
def T_judge_Check (i_judge_Check_1 : Rn → Z → Value → Value → Value → Value → H → Option Out) (X : Rn) (args : List Value) (h : H) : Option Out :=
    uc args fun t0 args => un args (k2 (some (newPtr h (cellsL t0))) fun t1 h1 =>
    k2 (some ((.int .i64 0), h1)) fun t2 h2 =>
    k2 (vField 0 t1 h2) fun t5 h3 =>
    k2 (vLoad1 t5 h3) fun t6 h4 =>
    k2 (vBin .lss .other t6 (.int .i64 1) h4) fun t7 h5 =>
    k2 (some (t7, h5)) fun t8 h6 =>
    k2 (gd t8 false h6 (vField 0 t1 h6)) fun t9 h7 =>
    k2 (gd t8 false h7 (vLoad1 t9 h7)) fun t10 h8 =>
    k2 (gd t8 false h8 (vBin .gtr .other t10 (.int .i64 60) h8)) fun t11 h9 =>
    k2 (vPick t8 (.bool true) t11 h9) fun t12 h10 =>
    k2 (some (t12, h10)) fun t13 h11 =>
    k2 (gd t13 false h11 (vField 1 t1 h11)) fun t14 h12 =>
    k2 (gd t13 false h12 (vLoad1 t14 h12)) fun t15 h13 =>
    k2 (gd t13 false h13 (vBin .lss .other t15 (.int .i64 1) h13)) fun t16 h14 =>
    k2 (vPick t13 (.bool true) t16 h14) fun t17 h15 =>
    k2 (some (t17, h15)) fun t18 h16 =>
    k2 (gd t18 false h16 (vField 1 t1 h16)) fun t19 h17 =>
    k2 (gd t18 false h17 (vLoad1 t19 h17)) fun t20 h18 =>
    k2 (gd t18 false h18 (vBin .gtr .other t20 (.int .i64 41) h18)) fun t21 h19 =>
    k2 (vPick t18 (.bool true) t21 h19) fun t22 h20 =>
    k2 (some (t22, h20)) fun t23 h21 =>
    k2 (gd t23 false h21 (vField 2 t1 h21)) fun t24 h22 =>
    k2 (gd t23 false h22 (vLoad1 t24 h22)) fun t25 h23 =>
    k2 (gd t23 false h23 (bltV h23 .len [t25])) fun t26 h24 =>
    k2 (gd t23 false h24 (vBin .gtr .other t26 (.int .i64 400) h24)) fun t27 h25 =>
    k2 (vPick t23 (.bool true) t27 h25) fun t28 h26 =>
    br t28
      (k2 (some ((.int .i64 2), h26)) fun t2 h27 =>
    some (.val (tupleOf [t2]) h27))
      (k2 (vField 2 t1 h26) fun t29 h28 =>
    k2 (vLoad1 t29 h28) fun t30 h29 =>
    k2 (bltV h29 .len [t30]) fun t31 h30 =>
    k2 (some ((.int .i64 0), h30)) fun t32 h31 =>
    X.loop [p1, p30, p31, p32] c_judge_Check_1 (kBlk 0 (kSeq X c_judge_Check_0 [] (KZ_judge_Check_0 X))) (fun z_1 vs h => uc vs fun t1 vs => uc vs fun t30 vs => uc vs fun t31 vs => uc vs fun t32 vs => un vs (i_judge_Check_1 X z_1 t1 t30 t31 t32 h)) [t1, t30, t31, t32] h31))
def x_judge_Check : Rn → List Value → H → Option Out := T_judge_Check x_judge_Check_1
theorem e_judge_Check : ((fun X args h => shFunc X 1 f_judge_Check args h) : Rn → List Value → H → Option Out) = x_judge_Check := (show ((fun X args h => shFunc X 1 f_judge_Check args h) : Rn → List Value → H → Option Out) = T_judge_Check (fun X z_1 t1 t30 t31 t32 h => sh X c_judge_Check_1 (KZ_judge_Check_1 X z_1) (setL [p1, p30, p31, p32] [t1, t30, t31, t32]) h) by kernel_rfl).trans (by rw [e_judge_Check_1]; rfl)
def T_cabotageref22_SameGraph_0 (X : Rn) (h : H) : Option Out :=
    k2 (some ((.bool true), h)) fun t4 h1 =>
    some (.val (tupleOf [t4]) h1)
def x_cabotageref22_SameGraph_0 : Rn → H → Option Out := T_cabotageref22_SameGraph_0
theorem e_cabotageref22_SameGraph_0 : ((fun X h => sh X c_cabotageref22_SameGraph_0 (KZ_cabotageref22_SameGraph_0 X) (setL [] []) h) : Rn → H → Option Out) = x_cabotageref22_SameGraph_0 := by kernel_rfl
def T_cabotageref22_SameGraph_1 (i_cabotageref22_SameGraph_0 : Rn → H → Option Out) (X : Rn) (z_1 : Z) (t2 t3 t5 : Value) (h : H) : Option Out :=
    k2 (some (t5, h)) fun t27 h1 =>
    k2 (vField 2 t2 h1) fun t28 h2 =>
    k2 (vLoad1 t28 h2) fun t29 h3 =>
    k2 (bltV h3 .len [t29]) fun t30 h4 =>
    k2 (vBin .lss .other t27 t30 h4) fun t31 h5 =>
    br t31
      (k2 (vField 2 t2 h5) fun t34 h6 =>
    k2 (rdF (fun b => vLoad1 t34 b) 0 h6 [(0, h5)]) fun t35 h7 =>
    k2 (some (t5, h7)) fun t36 h8 =>
    k2 (vIndex 3 t35 t36 h8) fun t37 h9 =>
    k2 (rdF (fun b => vLoadN 3 t37 b) 0 h9 [(0, h5)]) fun t38 h10 =>
    k2 (vField 2 t3 h10) fun t39 h11 =>
    k2 (rdF (fun b => vLoad1 t39 b) 0 h11 [(0, h5)]) fun t40 h12 =>
    k2 (some (t5, h12)) fun t41 h13 =>
    k2 (vIndex 3 t40 t41 h13) fun t42 h14 =>
    k2 (rdF (fun b => vLoadN 3 t42 b) 0 h14 [(0, h5)]) fun t43 h15 =>
    k2 (vBin .neq (.leaves [0, 1, 2]) t38 t43 h15) fun t44 h16 =>
    br t44
      (k2 (some ((.bool false), h16)) fun t4 h17 =>
    some (.val (tupleOf [t4]) h17))
      (k2 (some (t5, h16)) fun t32 h18 =>
    k2 (vBin .add .other t32 (.int .i64 1) h18) fun t33 h19 =>
    k2 (some (t33, h19)) fun t5_20 h21 =>
    z_1 [t2, t3, t5_20] h21))
      (i_cabotageref22_SameGraph_0 X h5)
def x_cabotageref22_SameGraph_1 : Rn → Z → Value → Value → Value → H → Option Out := T_cabotageref22_SameGraph_1 x_cabotageref22_SameGraph_0
theorem e_cabotageref22_SameGraph_1 : ((fun X z_1 t2 t3 t5 h => sh X c_cabotageref22_SameGraph_1 (KZ_cabotageref22_SameGraph_1 X z_1) (setL [p2, p3, p5] [t2, t3, t5]) h) : Rn → Z → Value → Value → Value → H → Option Out) = x_cabotageref22_SameGraph_1 := (show ((fun X z_1 t2 t3 t5 h => sh X c_cabotageref22_SameGraph_1 (KZ_cabotageref22_SameGraph_1 X z_1) (setL [p2, p3, p5] [t2, t3, t5]) h) : Rn → Z → Value → Value → Value → H → Option Out) = T_cabotageref22_SameGraph_1 (fun X h => sh X c_cabotageref22_SameGraph_0 (KZ_cabotageref22_SameGraph_0 X) (setL [] []) h) by kernel_rfl).trans (by rw [e_cabotageref22_SameGraph_0]; rfl)
def T_cabotageref22_SameGraph (i_cabotageref22_SameGraph_1 : Rn → Z → Value → Value → Value → H → Option Out) (X : Rn) (args : List Value) (h : H) : Option Out :=
    uc args fun t0 args => uc args fun t1 args => un args (k2 (some (newPtr h (cellsL t0))) fun t2 h1 =>
    k2 (some (newPtr h1 (cellsL t1))) fun t3 h2 =>
    k2 (some ((.bool false), h2)) fun t4 h3 =>
    k2 (vField 0 t2 h3) fun t6 h4 =>
    k2 (vLoad1 t6 h4) fun t7 h5 =>
    k2 (vField 0 t3 h5) fun t8 h6 =>
    k2 (vLoad1 t8 h6) fun t9 h7 =>
    k2 (vBin .neq .other t7 t9 h7) fun t10 h8 =>
    k2 (some (t10, h8)) fun t11 h9 =>
    k2 (gd t11 false h9 (vField 1 t2 h9)) fun t12 h10 =>
    k2 (gd t11 false h10 (vLoad1 t12 h10)) fun t13 h11 =>
    k2 (gd t11 false h11 (vField 1 t3 h11)) fun t14 h12 =>
    k2 (gd t11 false h12 (vLoad1 t14 h12)) fun t15 h13 =>
    k2 (gd t11 false h13 (vBin .neq .other t13 t15 h13)) fun t16 h14 =>
    k2 (vPick t11 (.bool true) t16 h14) fun t17 h15 =>
    k2 (some (t17, h15)) fun t18 h16 =>
    k2 (gd t18 false h16 (vField 2 t2 h16)) fun t19 h17 =>
    k2 (gd t18 false h17 (vLoad1 t19 h17)) fun t20 h18 =>
    k2 (gd t18 false h18 (bltV h18 .len [t20])) fun t21 h19 =>
    k2 (gd t18 false h19 (vField 2 t3 h19)) fun t22 h20 =>
    k2 (gd t18 false h20 (vLoad1 t22 h20)) fun t23 h21 =>
    k2 (gd t18 false h21 (bltV h21 .len [t23])) fun t24 h22 =>
    k2 (gd t18 false h22 (vBin .neq .other t21 t24 h22)) fun t25 h23 =>
    k2 (vPick t18 (.bool true) t25 h23) fun t26 h24 =>
    br t26
      (k2 (some ((.bool false), h24)) fun t4 h25 =>
    some (.val (tupleOf [t4]) h25))
      (k2 (some ((.int .i64 0), h24)) fun t5 h26 =>
    X.loop [p2, p3, p5] c_cabotageref22_SameGraph_1 (kBlk 0 (kSeq X c_cabotageref22_SameGraph_0 [] (KZ_cabotageref22_SameGraph_0 X))) (fun z_1 vs h => uc vs fun t2 vs => uc vs fun t3 vs => uc vs fun t5 vs => un vs (i_cabotageref22_SameGraph_1 X z_1 t2 t3 t5 h)) [t2, t3, t5] h26))
def x_cabotageref22_SameGraph : Rn → List Value → H → Option Out := T_cabotageref22_SameGraph x_cabotageref22_SameGraph_1
theorem e_cabotageref22_SameGraph : ((fun X args h => shFunc X 2 f_cabotageref22_SameGraph args h) : Rn → List Value → H → Option Out) = x_cabotageref22_SameGraph := (show ((fun X args h => shFunc X 2 f_cabotageref22_SameGraph args h) : Rn → List Value → H → Option Out) = T_cabotageref22_SameGraph (fun X z_1 t2 t3 t5 h => sh X c_cabotageref22_SameGraph_1 (KZ_cabotageref22_SameGraph_1 X z_1) (setL [p2, p3, p5] [t2, t3, t5]) h) by kernel_rfl).trans (by rw [e_cabotageref22_SameGraph_1]; rfl)
def T_cabotagelaw22_known (X : Rn) (args : List Value) (h : H) : Option Out :=
    un args (k2 (some ((.bool false), h)) fun t0 h1 =>
    k2 ((fillL [(.int .i64 0), (.int .i64 0), (.int .i64 0)] [(0, 1, (.int .i64 0)), (1, 1, (.int .i64 1)), (2, 1, (.int .i64 1))]).map fun c => (Value.agg ⟨c⟩, h1)) fun t17 h2 =>
    k2 ((fillL [(.int .i64 0), (.int .i64 0), (.int .i64 0)] [(0, 1, (.int .i64 1)), (1, 1, (.int .i64 2)), (2, 1, (.int .i64 1))]).map fun c => (Value.agg ⟨c⟩, h2)) fun t18 h3 =>
    k2 ((fillL [(.int .i64 0), (.int .i64 0), (.int .i64 0)] [(0, 1, (.int .i64 1)), (1, 1, (.int .i64 3)), (2, 1, (.int .i64 2))]).map fun c => (Value.agg ⟨c⟩, h3)) fun t19 h4 =>
    k2 (vSlice 3 (fillL (repeatL [(.int .i64 0), (.int .i64 0), (.int .i64 0)] 3) [(0 * 3, 3, t17), (1 * 3, 3, t18), (2 * 3, 3, t19)]) h4) fun t20 h5 =>
    k2 (X.call (.func (.func n_cabotagelaw22_edges) #[] #[]) [t20] h5) fun t21 h6 =>
    k2 ((fillL [(.int .i64 0), (.int .i64 0), (.slice none 0 0)] [(0, 1, (.int .i64 4)), (1, 1, (.int .i64 3)), (2, 1, t21)]).map fun c => (Value.agg ⟨c⟩, h6)) fun t22 h7 =>
    k2 (some (newPtr h7 [(.int .i64 0), (.int .i64 0), (.slice none 0 0)])) fun t1 h8 =>
    k2 (vStore 3 t1 t22 h8) fun _ h9 =>
    k2 ((fillL [(.int .i64 0), (.int .i64 0), (.int .i64 0)] [(0, 1, (.int .i64 0)), (1, 1, (.int .i64 1)), (2, 1, (.int .i64 1))]).map fun c => (Value.agg ⟨c⟩, h9)) fun t23 h10 =>
    k2 ((fillL [(.int .i64 0), (.int .i64 0), (.int .i64 0)] [(0, 1, (.int .i64 0)), (1, 1, (.int .i64 2)), (2, 1, (.int .i64 1))]).map fun c => (Value.agg ⟨c⟩, h10)) fun t24 h11 =>
    k2 ((fillL [(.int .i64 0), (.int .i64 0), (.int .i64 0)] [(0, 1, (.int .i64 1)), (1, 1, (.int .i64 3)), (2, 1, (.int .i64 1))]).map fun c => (Value.agg ⟨c⟩, h11)) fun t25 h12 =>
    k2 ((fillL [(.int .i64 0), (.int .i64 0), (.int .i64 0)] [(0, 1, (.int .i64 2)), (1, 1, (.int .i64 4)), (2, 1, (.int .i64 2))]).map fun c => (Value.agg ⟨c⟩, h12)) fun t26 h13 =>
    k2 (vSlice 4 (fillL (repeatL [(.int .i64 0), (.int .i64 0), (.int .i64 0)] 4) [(0 * 3, 3, t23), (1 * 3, 3, t24), (2 * 3, 3, t25), (3 * 3, 3, t26)]) h13) fun t27 h14 =>
    k2 (X.call (.func (.func n_cabotagelaw22_edges) #[] #[]) [t27] h14) fun t28 h15 =>
    k2 ((fillL [(.int .i64 0), (.int .i64 0), (.slice none 0 0)] [(0, 1, (.int .i64 5)), (1, 1, (.int .i64 3)), (2, 1, t28)]).map fun c => (Value.agg ⟨c⟩, h15)) fun t29 h16 =>
    k2 (some (newPtr h16 [(.int .i64 0), (.int .i64 0), (.slice none 0 0)])) fun t2 h17 =>
    k2 (vStore 3 t2 t29 h17) fun _ h18 =>
    k2 (vLoadN 3 t1 h18) fun t31 h19 =>
    k2 (X.call (.func (.func n_judge_Classes) #[] #[]) [t31] h19) fun t32 h20 =>
    k2 (some (t32, h20)) fun t30 h21 =>
    k2 (vExtract 0 t30 h21) fun t33 h22 =>
    k2 (vExtract 1 t30 h22) fun t34 h23 =>
    k2 (some (t33, h23)) fun t3 h24 =>
    k2 (some (t34, h24)) fun t4 h25 =>
    k2 (vLoadN 3 t2 h25) fun t36 h26 =>
    k2 (X.call (.func (.func n_judge_Classes) #[] #[]) [t36] h26) fun t37 h27 =>
    k2 (some (t37, h27)) fun t35 h28 =>
    k2 (vExtract 0 t35 h28) fun t38 h29 =>
    k2 (vExtract 1 t35 h29) fun t39 h30 =>
    k2 (some (t38, h30)) fun t5 h31 =>
    k2 (some (t39, h31)) fun t6 h32 =>
    k2 (vLoadN 3 t1 h32) fun t41 h33 =>
    k2 (vLoadN 3 t2 h33) fun t42 h34 =>
    k2 (X.call (.func (.func n_judge_Alike) #[] #[]) [t41, t42] h34) fun t43 h35 =>
    k2 (some (t43, h35)) fun t40 h36 =>
    k2 (vExtract 0 t40 h36) fun t44 h37 =>
    k2 (vExtract 1 t40 h37) fun t45 h38 =>
    k2 (some (t44, h38)) fun t7 h39 =>
    k2 (some (t45, h39)) fun t8 h40 =>
    k2 (vLoadN 3 t1 h40) fun t47 h41 =>
    k2 (vLoadN 3 t2 h41) fun t48 h42 =>
    k2 (X.call (.func (.func n_cabotageref22_Both) #[] #[]) [t47, t48] h42) fun t49 h43 =>
    k2 (X.call (.func (.func n_judge_Tells) #[] #[]) [t49, (.int .i64 0), (.int .i64 4)] h43) fun t50 h44 =>
    k2 (some (t50, h44)) fun t46 h45 =>
    k2 (vExtract 0 t46 h45) fun t51 h46 =>
    k2 (vExtract 1 t46 h46) fun t52 h47 =>
    k2 (some (newPtr h47 [(.int .i64 0), (.int .i64 0), (.slice none 0 0)])) fun t9 h48 =>
    k2 (vStore 3 t9 t51 h48) fun _ h49 =>
    k2 (some (t52, h49)) fun t10 h50 =>
    k2 ((fillL [(.int .i64 0), (.int .i64 0), (.int .i64 0)] [(0, 1, (.int .i64 0)), (1, 1, (.int .i64 1)), (2, 1, (.int .i64 0))]).map fun c => (Value.agg ⟨c⟩, h50)) fun t54 h51 =>
    k2 ((fillL [(.int .i64 0), (.int .i64 0), (.int .i64 0)] [(0, 1, (.int .i64 1)), (1, 1, (.int .i64 0)), (2, 1, (.int .i64 1))]).map fun c => (Value.agg ⟨c⟩, h51)) fun t55 h52 =>
    k2 (vSlice 2 (fillL (repeatL [(.int .i64 0), (.int .i64 0), (.int .i64 0)] 2) [(0 * 3, 3, t54), (1 * 3, 3, t55)]) h52) fun t56 h53 =>
    k2 (X.call (.func (.func n_cabotagelaw22_edges) #[] #[]) [t56] h53) fun t57 h54 =>
    k2 ((fillL [(.int .i64 0), (.int .i64 0), (.slice none 0 0)] [(0, 1, (.int .i64 2)), (1, 1, (.int .i64 2)), (2, 1, t57)]).map fun c => (Value.agg ⟨c⟩, h54)) fun t58 h55 =>
    k2 (X.call (.func (.func n_judge_Weak) #[] #[]) [t58] h55) fun t59 h56 =>
    k2 (some (t59, h56)) fun t53 h57 =>
    k2 (vExtract 0 t53 h57) fun t60 h58 =>
    k2 (vExtract 1 t53 h58) fun t61 h59 =>
    k2 (some (newPtr h59 [(.int .i64 0), (.int .i64 0), (.slice none 0 0)])) fun t11 h60 =>
    k2 (vStore 3 t11 t60 h60) fun _ h61 =>
    k2 (some (t61, h61)) fun t12 h62 =>
    k2 (some (t4, h62)) fun t62 h63 =>
    k2 (vBin .neq .other t62 (.int .i64 0) h63) fun t63 h64 =>
    k2 (some (t63, h64)) fun t64 h65 =>
    k2 (gd t64 false h65 (some (t6, h65))) fun t65 h66 =>
    k2 (gd t64 false h66 (vBin .neq .other t65 (.int .i64 0) h66)) fun t66 h67 =>
    k2 (vPick t64 (.bool true) t66 h67) fun t67 h68 =>
    k2 (some (t67, h68)) fun t68 h69 =>
    k2 (gd t68 false h69 (some (t8, h69))) fun t69 h70 =>
    k2 (gd t68 false h70 (vBin .neq .other t69 (.int .i64 0) h70)) fun t70 h71 =>
    k2 (vPick t68 (.bool true) t70 h71) fun t71 h72 =>
    k2 (some (t71, h72)) fun t72 h73 =>
    k2 (gd t72 false h73 (some (t10, h73))) fun t73 h74 =>
    k2 (gd t72 false h74 (vBin .neq .other t73 (.int .i64 0) h74)) fun t74 h75 =>
    k2 (vPick t72 (.bool true) t74 h75) fun t75 h76 =>
    k2 (some (t75, h76)) fun t76 h77 =>
    k2 (gd t76 false h77 (some (t12, h77))) fun t77 h78 =>
    k2 (gd t76 false h78 (vBin .neq .other t77 (.int .i64 0) h78)) fun t78 h79 =>
    k2 (vPick t76 (.bool true) t78 h79) fun t79 h80 =>
    br t79
      (k2 (some ((.bool false), h80)) fun t0 h81 =>
    some (.val (tupleOf [t0]) h81))
      (k2 ((fillL [(.int .i64 0), (.int .i64 0), (.slice none 0 0)] [(0, 1, (.int .i64 3))]).map fun c => (Value.agg ⟨c⟩, h80)) fun t80 h82 =>
    k2 (some (newPtr h82 [(.int .i64 0), (.int .i64 0), (.slice none 0 0)])) fun t13 h83 =>
    k2 (vStore 3 t13 t80 h83) fun _ h84 =>
    k2 (vLoadN 3 t13 h84) fun t81 h85 =>
    k2 (vSlice 1 (fillL (repeatL [(.int .i64 0), (.int .i64 0), (.slice none 0 0)] 1) [(0 * 3, 3, t81)]) h85) fun t82 h86 =>
    k2 ((fillL [(.int .i64 0), (.int .i64 0), (.slice none 0 0)] [(0, 1, (.int .i64 4)), (1, 1, (.int .i64 2)), (2, 1, t82)]).map fun c => (Value.agg ⟨c⟩, h86)) fun t83 h87 =>
    k2 (vLoadN 3 t13 h87) fun t84 h88 =>
    k2 (vSlice 1 (fillL (repeatL [(.int .i64 0), (.int .i64 0), (.slice none 0 0)] 1) [(0 * 3, 3, t84)]) h88) fun t85 h89 =>
    k2 ((fillL [(.int .i64 0), (.int .i64 0), (.slice none 0 0)] [(0, 1, (.int .i64 4)), (1, 1, (.int .i64 1)), (2, 1, t85)]).map fun c => (Value.agg ⟨c⟩, h89)) fun t86 h90 =>
    k2 (vSlice 2 (fillL (repeatL [(.int .i64 0), (.int .i64 0), (.slice none 0 0)] 2) [(0 * 3, 3, t83), (1 * 3, 3, t86)]) h90) fun t87 h91 =>
    k2 (some (t87, h91)) fun t14 h92 =>
    k2 (some (t14, h92)) fun t88 h93 =>
    k2 ((fillL [(.int .i64 0), (.int .i64 0), (.slice none 0 0)] [(0, 1, (.int .i64 3)), (2, 1, t88)]).map fun c => (Value.agg ⟨c⟩, h93)) fun t89 h94 =>
    k2 (vSlice 1 (fillL (repeatL [(.int .i64 0), (.int .i64 0), (.slice none 0 0)] 1) [(0 * 3, 3, t89)]) h94) fun t90 h95 =>
    k2 ((fillL [(.int .i64 0), (.int .i64 0), (.slice none 0 0)] [(0, 1, (.int .i64 4)), (1, 1, (.int .i64 1)), (2, 1, t90)]).map fun c => (Value.agg ⟨c⟩, h95)) fun t91 h96 =>
    k2 (some (newPtr h96 [(.int .i64 0), (.int .i64 0), (.slice none 0 0)])) fun t15 h97 =>
    k2 (vStore 3 t15 t91 h97) fun _ h98 =>
    k2 ((fillL [(.int .i64 0), (.int .i64 0), (.int .i64 0)] [(0, 1, (.int .i64 0)), (1, 1, (.int .i64 0)), (2, 1, (.int .i64 0))]).map fun c => (Value.agg ⟨c⟩, h98)) fun t92 h99 =>
    k2 ((fillL [(.int .i64 0), (.int .i64 0), (.int .i64 0)] [(0, 1, (.int .i64 0)), (1, 1, (.int .i64 1)), (2, 1, (.int .i64 0))]).map fun c => (Value.agg ⟨c⟩, h99)) fun t93 h100 =>
    k2 ((fillL [(.int .i64 0), (.int .i64 0), (.int .i64 0)] [(0, 1, (.int .i64 0)), (1, 1, (.int .i64 0)), (2, 1, (.int .i64 1))]).map fun c => (Value.agg ⟨c⟩, h100)) fun t94 h101 =>
    k2 ((fillL [(.int .i64 0), (.int .i64 0), (.int .i64 0)] [(0, 1, (.int .i64 0)), (1, 1, (.int .i64 1)), (2, 1, (.int .i64 1))]).map fun c => (Value.agg ⟨c⟩, h101)) fun t95 h102 =>
    k2 ((fillL [(.int .i64 0), (.int .i64 0), (.int .i64 0)] [(0, 1, (.int .i64 1)), (1, 1, (.int .i64 1)), (2, 1, (.int .i64 0))]).map fun c => (Value.agg ⟨c⟩, h102)) fun t96 h103 =>
    k2 ((fillL [(.int .i64 0), (.int .i64 0), (.int .i64 0)] [(0, 1, (.int .i64 1)), (1, 1, (.int .i64 0)), (2, 1, (.int .i64 1))]).map fun c => (Value.agg ⟨c⟩, h103)) fun t97 h104 =>
    k2 ((fillL [(.int .i64 0), (.int .i64 0), (.int .i64 0)] [(0, 1, (.int .i64 1)), (1, 1, (.int .i64 1)), (2, 1, (.int .i64 1))]).map fun c => (Value.agg ⟨c⟩, h104)) fun t98 h105 =>
    k2 (vSlice 7 (fillL (repeatL [(.int .i64 0), (.int .i64 0), (.int .i64 0)] 7) [(0 * 3, 3, t92), (1 * 3, 3, t93), (2 * 3, 3, t94), (3 * 3, 3, t95), (4 * 3, 3, t96), (5 * 3, 3, t97), (6 * 3, 3, t98)]) h105) fun t99 h106 =>
    k2 (X.call (.func (.func n_cabotagelaw22_edges) #[] #[]) [t99] h106) fun t100 h107 =>
    k2 (some (t100, h107)) fun t16 h108 =>
    k2 (some (t3, h108)) fun t101 h109 =>
    k2 (vSlice 4 (fillL (repeatL [(.int .i64 0)] 4) [(0 * 1, 1, (.int .i64 0)), (1 * 1, 1, (.int .i64 1)), (2 * 1, 1, (.int .i64 2)), (3 * 1, 1, (.int .i64 2))]) h109) fun t102 h110 =>
    k2 (X.call (.func (.func n_cabotageref03_SameInts) #[] #[]) [t101, t102] h110) fun t103 h111 =>
    k2 (some (t103, h111)) fun t104 h112 =>
    k2 (gd t104 true h112 (some (t5, h112))) fun t105 h113 =>
    k2 (gd t104 true h113 (vSlice 5 (fillL (repeatL [(.int .i64 0)] 5) [(0 * 1, 1, (.int .i64 0)), (1 * 1, 1, (.int .i64 1)), (2 * 1, 1, (.int .i64 2)), (3 * 1, 1, (.int .i64 3)), (4 * 1, 1, (.int .i64 3))]) h113)) fun t106 h114 =>
    k2 (gd t104 true h114 (X.call (.func (.func n_cabotageref03_SameInts) #[] #[]) [t105, t106] h114)) fun t107 h115 =>
    k2 (vPick t104 t107 (.bool false) h115) fun t108 h116 =>
    k2 (some (t108, h116)) fun t109 h117 =>
    k2 (gd t109 true h117 (some (t7, h117))) fun t110 h118 =>
    k2 (gd t109 true h118 (vUn .not t110 h118)) fun t111 h119 =>
    k2 (vPick t109 t111 (.bool false) h119) fun t112 h120 =>
    k2 (some (t112, h120)) fun t113 h121 =>
    k2 (gd t113 true h121 (vLoadN 3 t9 h121)) fun t114 h122 =>
    k2 (gd t113 true h122 (vLoadN 3 t15 h122)) fun t115 h123 =>
    k2 (gd t113 true h123 (X.call (.func (.func n_cabotageref22_SameFormula) #[] #[]) [t114, t115] h123)) fun t116 h124 =>
    k2 (vPick t113 t116 (.bool false) h124) fun t117 h125 =>
    k2 (some (t117, h125)) fun t118 h126 =>
    k2 (gd t118 true h126 (vLoadN 3 t11 h126)) fun t119 h127 =>
    k2 (gd t118 true h127 (some (t16, h127))) fun t120 h128 =>
    k2 (gd t118 true h128 ((fillL [(.int .i64 0), (.int .i64 0), (.slice none 0 0)] [(0, 1, (.int .i64 2)), (1, 1, (.int .i64 2)), (2, 1, t120)]).map fun c => (Value.agg ⟨c⟩, h128))) fun t121 h129 =>
    k2 (gd t118 true h129 (X.call (.func (.func n_cabotageref22_SameGraph) #[] #[]) [t119, t121] h129)) fun t122 h130 =>
    k2 (vPick t118 t122 (.bool false) h130) fun t123 h131 =>
    k2 (some (t123, h131)) fun t0 h132 =>
    some (.val (tupleOf [t0]) h132)))
def x_cabotagelaw22_known : Rn → List Value → H → Option Out := T_cabotagelaw22_known
theorem e_cabotagelaw22_known : ((fun X args h => shFunc X 0 f_cabotagelaw22_known args h) : Rn → List Value → H → Option Out) = x_cabotagelaw22_known := by kernel_rfl
def T_judge_Tells (X : Rn) (args : List Value) (h : H) : Option Out :=
    uc args fun t0 args => uc args fun t1 args => uc args fun t2 args => un args (k2 (some (newPtr h (cellsL t0))) fun t3 h1 =>
    k2 (some (newPtr h1 [(.int .i64 0), (.int .i64 0), (.slice none 0 0)])) fun t6 h2 =>
    k2 (some ((.int .i64 0), h2)) fun t7 h3 =>
    k2 (vLoadN 3 t3 h3) fun t11 h4 =>
    k2 (some (t1, h4)) fun t12 h5 =>
    k2 (X.call (.func (.func n_judge_isState) #[] #[]) [t11, t12] h5) fun t13 h6 =>
    k2 (vUn .not t13 h6) fun t14 h7 =>
    k2 (some (t14, h7)) fun t15 h8 =>
    k2 (gd t15 false h8 (vLoadN 3 t3 h8)) fun t16 h9 =>
    k2 (gd t15 false h9 (some (t2, h9))) fun t17 h10 =>
    k2 (gd t15 false h10 (X.call (.func (.func n_judge_isState) #[] #[]) [t16, t17] h10)) fun t18 h11 =>
    k2 (gd t15 false h11 (vUn .not t18 h11)) fun t19 h12 =>
    k2 (vPick t15 (.bool true) t19 h12) fun t20 h13 =>
    br t20
      (k2 ((fillL [(.int .i64 0), (.int .i64 0), (.slice none 0 0)] []).map fun c => (Value.agg ⟨c⟩, h13)) fun t21 h14 =>
    k2 (vStore 3 t6 t21 h14) fun _ h15 =>
    k2 (some ((.int .i64 2), h15)) fun t7 h16 =>
    (vRes (some 3) t6 h16).bind fun r0 => some (.val (tupleOf [r0, t7]) h16))
      (k2 (rdF (fun b => vLoadN 3 t3 b) 0 h13 [(0, h13)]) fun t22 h17 =>
    k2 (X.call (.func (.func n_judge_apart) #[] #[]) [t22] h17) fun t23 h18 =>
    k2 (rdF (fun b => vLoadN 3 t3 b) 0 h18 [(1, h18), (0, h13)]) fun t24 h19 =>
    k2 (some (.map (some h19.next), h19.new (.map [] 0))) fun t25 h20 =>
    k2 ((fillL [(.map none), (.int .i64 0), (.int .i64 0), (.slice none 0 0), (.map none)] [(0, 1, t23), (1, 3, t24), (4, 1, t25)]).map fun c => (Value.agg ⟨c⟩, h20)) fun t26 h21 =>
    k2 (some (newPtr h21 [(.map none), (.int .i64 0), (.int .i64 0), (.slice none 0 0), (.map none)])) fun t8 h22 =>
    k2 (vStore 5 t8 t26 h22) fun _ h23 =>
    k2 (vField 0 t8 h23) fun t28 h24 =>
    k2 (vLoad1 t28 h24) fun t29 h25 =>
    k2 (some (t1, h25)) fun t30 h26 =>
    k2 (some (t2, h26)) fun t31 h27 =>
    k2 ((fillL [(.int .i64 0), (.int .i64 0)] [(0, 1, t30), (1, 1, t31)]).map fun c => (Value.agg ⟨c⟩, h27)) fun t32 h28 =>
    k2 (vLookup (.leaves [0, 1]) (.int .i64 0) true t29 t32 h28) fun t33 h29 =>
    k2 (some (t33, h29)) fun t27 h30 =>
    k2 (vExtract 0 t27 h30) fun t34 h31 =>
    k2 (vExtract 1 t27 h31) fun t35 h32 =>
    k2 (some (t34, h32)) fun t9 h33 =>
    k2 (some (t35, h33)) fun t10 h34 =>
    k2 (some (t10, h34)) fun t36 h35 =>
    k2 (vUn .not t36 h35) fun t37 h36 =>
    br t37
      (k2 ((fillL [(.int .i64 0), (.int .i64 0), (.slice none 0 0)] []).map fun c => (Value.agg ⟨c⟩, h36)) fun t38 h37 =>
    k2 (vStore 3 t6 t38 h37) fun _ h38 =>
    k2 (some ((.int .i64 5), h38)) fun t7 h39 =>
    (vRes (some 3) t6 h39).bind fun r0 => some (.val (tupleOf [r0, t7]) h39))
      (k2 (vLoadN 5 t8 h36) fun t39 h40 =>
    k2 (some (t1, h40)) fun t40 h41 =>
    k2 (some (t2, h41)) fun t41 h42 =>
    k2 (X.call (.func (.func n_judge_teller_size) #[] #[]) [t39, t40, t41] h42) fun t42 h43 =>
    k2 (vBin .gtr .other t42 (.int .i64 3000) h43) fun t43 h44 =>
    br t43
      (k2 ((fillL [(.int .i64 0), (.int .i64 0), (.slice none 0 0)] []).map fun c => (Value.agg ⟨c⟩, h44)) fun t44 h45 =>
    k2 (vStore 3 t6 t44 h45) fun _ h46 =>
    k2 (some ((.int .i64 3), h46)) fun t7 h47 =>
    (vRes (some 3) t6 h47).bind fun r0 => some (.val (tupleOf [r0, t7]) h47))
      (k2 (vLoadN 5 t8 h44) fun t45 h48 =>
    k2 (some (t1, h48)) fun t46 h49 =>
    k2 (some (t2, h49)) fun t47 h50 =>
    k2 (X.call (.func (.func n_judge_teller_formula) #[] #[]) [t45, t46, t47] h50) fun t48 h51 =>
    k2 (vStore 3 t6 t48 h51) fun _ h52 =>
    k2 (some ((.int .i64 0), h52)) fun t7 h53 =>
    (vRes (some 3) t6 h53).bind fun r0 => some (.val (tupleOf [r0, t7]) h53)))))
def x_judge_Tells : Rn → List Value → H → Option Out := T_judge_Tells
theorem e_judge_Tells : ((fun X args h => shFunc X 3 f_judge_Tells args h) : Rn → List Value → H → Option Out) = x_judge_Tells := by kernel_rfl
def T_cabotageref22_SameFormula_0 (X : Rn) (h : H) : Option Out :=
    k2 (some ((.bool true), h)) fun t4 h1 =>
    some (.val (tupleOf [t4]) h1)
def x_cabotageref22_SameFormula_0 : Rn → H → Option Out := T_cabotageref22_SameFormula_0
theorem e_cabotageref22_SameFormula_0 : ((fun X h => sh X c_cabotageref22_SameFormula_0 (KZ_cabotageref22_SameFormula_0 X) (setL [] []) h) : Rn → H → Option Out) = x_cabotageref22_SameFormula_0 := by kernel_rfl
def T_cabotageref22_SameFormula_1 (i_cabotageref22_SameFormula_0 : Rn → H → Option Out) (X : Rn) (z_1 : Z) (t2 t3 t5 : Value) (h : H) : Option Out :=
    k2 (some (t5, h)) fun t27 h1 =>
    k2 (vField 2 t2 h1) fun t28 h2 =>
    k2 (vLoad1 t28 h2) fun t29 h3 =>
    k2 (bltV h3 .len [t29]) fun t30 h4 =>
    k2 (vBin .lss .other t27 t30 h4) fun t31 h5 =>
    br t31
      (k2 (vField 2 t2 h5) fun t34 h6 =>
    k2 (rdF (fun b => vLoad1 t34 b) 0 h6 [(0, h5)]) fun t35 h7 =>
    k2 (some (t5, h7)) fun t36 h8 =>
    k2 (vIndex 3 t35 t36 h8) fun t37 h9 =>
    k2 (rdF (fun b => vLoadN 3 t37 b) 0 h9 [(0, h5)]) fun t38 h10 =>
    k2 (vField 2 t3 h10) fun t39 h11 =>
    k2 (rdF (fun b => vLoad1 t39 b) 0 h11 [(0, h5)]) fun t40 h12 =>
    k2 (some (t5, h12)) fun t41 h13 =>
    k2 (vIndex 3 t40 t41 h13) fun t42 h14 =>
    k2 (rdF (fun b => vLoadN 3 t42 b) 0 h14 [(0, h5)]) fun t43 h15 =>
    k2 (X.call (.func (.func n_cabotageref22_SameFormula) #[] #[]) [t38, t43] h15) fun t44 h16 =>
    k2 (vUn .not t44 h16) fun t45 h17 =>
    br t45
      (k2 (some ((.bool false), h17)) fun t4 h18 =>
    some (.val (tupleOf [t4]) h18))
      (k2 (some (t5, h17)) fun t32 h19 =>
    k2 (vBin .add .other t32 (.int .i64 1) h19) fun t33 h20 =>
    k2 (some (t33, h20)) fun t5_21 h22 =>
    z_1 [t2, t3, t5_21] h22))
      (i_cabotageref22_SameFormula_0 X h5)
def x_cabotageref22_SameFormula_1 : Rn → Z → Value → Value → Value → H → Option Out := T_cabotageref22_SameFormula_1 x_cabotageref22_SameFormula_0
theorem e_cabotageref22_SameFormula_1 : ((fun X z_1 t2 t3 t5 h => sh X c_cabotageref22_SameFormula_1 (KZ_cabotageref22_SameFormula_1 X z_1) (setL [p2, p3, p5] [t2, t3, t5]) h) : Rn → Z → Value → Value → Value → H → Option Out) = x_cabotageref22_SameFormula_1 := (show ((fun X z_1 t2 t3 t5 h => sh X c_cabotageref22_SameFormula_1 (KZ_cabotageref22_SameFormula_1 X z_1) (setL [p2, p3, p5] [t2, t3, t5]) h) : Rn → Z → Value → Value → Value → H → Option Out) = T_cabotageref22_SameFormula_1 (fun X h => sh X c_cabotageref22_SameFormula_0 (KZ_cabotageref22_SameFormula_0 X) (setL [] []) h) by kernel_rfl).trans (by rw [e_cabotageref22_SameFormula_0]; rfl)
def T_cabotageref22_SameFormula (i_cabotageref22_SameFormula_1 : Rn → Z → Value → Value → Value → H → Option Out) (X : Rn) (args : List Value) (h : H) : Option Out :=
    uc args fun t0 args => uc args fun t1 args => un args (k2 (some (newPtr h (cellsL t0))) fun t2 h1 =>
    k2 (some (newPtr h1 (cellsL t1))) fun t3 h2 =>
    k2 (some ((.bool false), h2)) fun t4 h3 =>
    k2 (vField 0 t2 h3) fun t6 h4 =>
    k2 (vLoad1 t6 h4) fun t7 h5 =>
    k2 (vField 0 t3 h5) fun t8 h6 =>
    k2 (vLoad1 t8 h6) fun t9 h7 =>
    k2 (vBin .neq .other t7 t9 h7) fun t10 h8 =>
    k2 (some (t10, h8)) fun t11 h9 =>
    k2 (gd t11 false h9 (vField 1 t2 h9)) fun t12 h10 =>
    k2 (gd t11 false h10 (vLoad1 t12 h10)) fun t13 h11 =>
    k2 (gd t11 false h11 (vField 1 t3 h11)) fun t14 h12 =>
    k2 (gd t11 false h12 (vLoad1 t14 h12)) fun t15 h13 =>
    k2 (gd t11 false h13 (vBin .neq .other t13 t15 h13)) fun t16 h14 =>
    k2 (vPick t11 (.bool true) t16 h14) fun t17 h15 =>
    k2 (some (t17, h15)) fun t18 h16 =>
    k2 (gd t18 false h16 (vField 2 t2 h16)) fun t19 h17 =>
    k2 (gd t18 false h17 (vLoad1 t19 h17)) fun t20 h18 =>
    k2 (gd t18 false h18 (bltV h18 .len [t20])) fun t21 h19 =>
    k2 (gd t18 false h19 (vField 2 t3 h19)) fun t22 h20 =>
    k2 (gd t18 false h20 (vLoad1 t22 h20)) fun t23 h21 =>
    k2 (gd t18 false h21 (bltV h21 .len [t23])) fun t24 h22 =>
    k2 (gd t18 false h22 (vBin .neq .other t21 t24 h22)) fun t25 h23 =>
    k2 (vPick t18 (.bool true) t25 h23) fun t26 h24 =>
    br t26
      (k2 (some ((.bool false), h24)) fun t4 h25 =>
    some (.val (tupleOf [t4]) h25))
      (k2 (some ((.int .i64 0), h24)) fun t5 h26 =>
    X.loop [p2, p3, p5] c_cabotageref22_SameFormula_1 (kBlk 0 (kSeq X c_cabotageref22_SameFormula_0 [] (KZ_cabotageref22_SameFormula_0 X))) (fun z_1 vs h => uc vs fun t2 vs => uc vs fun t3 vs => uc vs fun t5 vs => un vs (i_cabotageref22_SameFormula_1 X z_1 t2 t3 t5 h)) [t2, t3, t5] h26))
def x_cabotageref22_SameFormula : Rn → List Value → H → Option Out := T_cabotageref22_SameFormula x_cabotageref22_SameFormula_1
theorem e_cabotageref22_SameFormula : ((fun X args h => shFunc X 2 f_cabotageref22_SameFormula args h) : Rn → List Value → H → Option Out) = x_cabotageref22_SameFormula := (show ((fun X args h => shFunc X 2 f_cabotageref22_SameFormula args h) : Rn → List Value → H → Option Out) = T_cabotageref22_SameFormula (fun X z_1 t2 t3 t5 h => sh X c_cabotageref22_SameFormula_1 (KZ_cabotageref22_SameFormula_1 X z_1) (setL [p2, p3, p5] [t2, t3, t5]) h) by kernel_rfl).trans (by rw [e_cabotageref22_SameFormula_1]; rfl)
def T_judge_Alike (X : Rn) (args : List Value) (h : H) : Option Out :=
    uc args fun t0 args => uc args fun t1 args => un args (k2 (some (newPtr h (cellsL t0))) fun t2 h1 =>
    k2 (some (newPtr h1 (cellsL t1))) fun t3 h2 =>
    k2 (some ((.bool false), h2)) fun t4 h3 =>
    k2 (some ((.int .i64 0), h3)) fun t5 h4 =>
    k2 (vLoadN 3 t2 h4) fun t6 h5 =>
    k2 (vLoadN 3 t3 h5) fun t7 h6 =>
    k2 (X.call (.func (.func n_judge_both) #[] #[]) [t6, t7] h6) fun t8 h7 =>
    k2 (vUn .not t8 h7) fun t9 h8 =>
    br t9
      (k2 (some ((.bool false), h8)) fun t4 h9 =>
    k2 (some ((.int .i64 2), h9)) fun t5 h10 =>
    some (.val (tupleOf [t4, t5]) h10))
      (k2 (vLoadN 3 t2 h8) fun t10 h11 =>
    k2 (vLoadN 3 t3 h11) fun t11 h12 =>
    k2 (X.call (.func (.func n_judge_alike) #[] #[]) [t10, t11] h12) fun t12 h13 =>
    k2 (some (t12, h13)) fun t4 h14 =>
    k2 (some ((.int .i64 0), h14)) fun t5 h15 =>
    some (.val (tupleOf [t4, t5]) h15)))
def x_judge_Alike : Rn → List Value → H → Option Out := T_judge_Alike
theorem e_judge_Alike : ((fun X args h => shFunc X 2 f_judge_Alike args h) : Rn → List Value → H → Option Out) = x_judge_Alike := by kernel_rfl
def T_judge_Classes (X : Rn) (args : List Value) (h : H) : Option Out :=
    uc args fun t0 args => un args (k2 (some (newPtr h (cellsL t0))) fun t1 h1 =>
    k2 (some ((.slice none 0 0), h1)) fun t2 h2 =>
    k2 (some ((.int .i64 0), h2)) fun t3 h3 =>
    k2 (vLoadN 3 t1 h3) fun t4 h4 =>
    k2 (X.call (.func (.func n_judge_Check) #[] #[]) [t4] h4) fun t5 h5 =>
    k2 (vBin .neq .other t5 (.int .i64 0) h5) fun t6 h6 =>
    br t6
      (k2 (some ((.slice none 0 0), h6)) fun t2 h7 =>
    k2 (some ((.int .i64 2), h7)) fun t3 h8 =>
    some (.val (tupleOf [t2, t3]) h8))
      (k2 (vLoadN 3 t1 h6) fun t7 h9 =>
    k2 (X.call (.func (.func n_judge_classes) #[] #[]) [t7] h9) fun t8 h10 =>
    k2 (some (t8, h10)) fun t2 h11 =>
    k2 (some ((.int .i64 0), h11)) fun t3 h12 =>
    some (.val (tupleOf [t2, t3]) h12)))
def x_judge_Classes : Rn → List Value → H → Option Out := T_judge_Classes
theorem e_judge_Classes : ((fun X args h => shFunc X 1 f_judge_Classes args h) : Rn → List Value → H → Option Out) = x_judge_Classes := by kernel_rfl
def T_cabotageref03_SameInts_0 (X : Rn) (h : H) : Option Out :=
    k2 (some ((.bool true), h)) fun t4 h1 =>
    some (.val (tupleOf [t4]) h1)
def x_cabotageref03_SameInts_0 : Rn → H → Option Out := T_cabotageref03_SameInts_0
theorem e_cabotageref03_SameInts_0 : ((fun X h => sh X c_cabotageref03_SameInts_0 (KZ_cabotageref03_SameInts_0 X) (setL [] []) h) : Rn → H → Option Out) = x_cabotageref03_SameInts_0 := by kernel_rfl
def T_cabotageref03_SameInts_1 (i_cabotageref03_SameInts_0 : Rn → H → Option Out) (X : Rn) (z_1 : Z) (t0 t1 t5 : Value) (h : H) : Option Out :=
    k2 (some (t5, h)) fun t11 h1 =>
    k2 (some (t0, h1)) fun t12 h2 =>
    k2 (bltV h2 .len [t12]) fun t13 h3 =>
    k2 (vBin .lss .other t11 t13 h3) fun t14 h4 =>
    br t14
      (k2 (some (t0, h4)) fun t17 h5 =>
    k2 (some (t5, h5)) fun t18 h6 =>
    k2 (vIndex 1 t17 t18 h6) fun t19 h7 =>
    k2 (rdF (fun b => vLoad1 t19 b) 0 h7 [(0, h4)]) fun t20 h8 =>
    k2 (some (t1, h8)) fun t21 h9 =>
    k2 (some (t5, h9)) fun t22 h10 =>
    k2 (vIndex 1 t21 t22 h10) fun t23 h11 =>
    k2 (rdF (fun b => vLoad1 t23 b) 0 h11 [(0, h4)]) fun t24 h12 =>
    k2 (vBin .neq .other t20 t24 h12) fun t25 h13 =>
    br t25
      (k2 (some ((.bool false), h13)) fun t4 h14 =>
    some (.val (tupleOf [t4]) h14))
      (k2 (some (t5, h13)) fun t15 h15 =>
    k2 (vBin .add .other t15 (.int .i64 1) h15) fun t16 h16 =>
    k2 (some (t16, h16)) fun t5_17 h18 =>
    z_1 [t0, t1, t5_17] h18))
      (i_cabotageref03_SameInts_0 X h4)
def x_cabotageref03_SameInts_1 : Rn → Z → Value → Value → Value → H → Option Out := T_cabotageref03_SameInts_1 x_cabotageref03_SameInts_0
theorem e_cabotageref03_SameInts_1 : ((fun X z_1 t0 t1 t5 h => sh X c_cabotageref03_SameInts_1 (KZ_cabotageref03_SameInts_1 X z_1) (setL [p0, p1, p5] [t0, t1, t5]) h) : Rn → Z → Value → Value → Value → H → Option Out) = x_cabotageref03_SameInts_1 := (show ((fun X z_1 t0 t1 t5 h => sh X c_cabotageref03_SameInts_1 (KZ_cabotageref03_SameInts_1 X z_1) (setL [p0, p1, p5] [t0, t1, t5]) h) : Rn → Z → Value → Value → Value → H → Option Out) = T_cabotageref03_SameInts_1 (fun X h => sh X c_cabotageref03_SameInts_0 (KZ_cabotageref03_SameInts_0 X) (setL [] []) h) by kernel_rfl).trans (by rw [e_cabotageref03_SameInts_0]; rfl)
def T_cabotageref03_SameInts (i_cabotageref03_SameInts_1 : Rn → Z → Value → Value → Value → H → Option Out) (X : Rn) (args : List Value) (h : H) : Option Out :=
    uc args fun t0 args => uc args fun t1 args => un args (k2 (some ((.bool false), h)) fun t4 h1 =>
    k2 (some (t0, h1)) fun t6 h2 =>
    k2 (bltV h2 .len [t6]) fun t7 h3 =>
    k2 (some (t1, h3)) fun t8 h4 =>
    k2 (bltV h4 .len [t8]) fun t9 h5 =>
    k2 (vBin .neq .other t7 t9 h5) fun t10 h6 =>
    br t10
      (k2 (some ((.bool false), h6)) fun t4 h7 =>
    some (.val (tupleOf [t4]) h7))
      (k2 (some ((.int .i64 0), h6)) fun t5 h8 =>
    X.loop [p0, p1, p5] c_cabotageref03_SameInts_1 (kBlk 0 (kSeq X c_cabotageref03_SameInts_0 [] (KZ_cabotageref03_SameInts_0 X))) (fun z_1 vs h => uc vs fun t0 vs => uc vs fun t1 vs => uc vs fun t5 vs => un vs (i_cabotageref03_SameInts_1 X z_1 t0 t1 t5 h)) [t0, t1, t5] h8))
def x_cabotageref03_SameInts : Rn → List Value → H → Option Out := T_cabotageref03_SameInts x_cabotageref03_SameInts_1
theorem e_cabotageref03_SameInts : ((fun X args h => shFunc X 2 f_cabotageref03_SameInts args h) : Rn → List Value → H → Option Out) = x_cabotageref03_SameInts := (show ((fun X args h => shFunc X 2 f_cabotageref03_SameInts args h) : Rn → List Value → H → Option Out) = T_cabotageref03_SameInts (fun X z_1 t0 t1 t5 h => sh X c_cabotageref03_SameInts_1 (KZ_cabotageref03_SameInts_1 X z_1) (setL [p0, p1, p5] [t0, t1, t5]) h) by kernel_rfl).trans (by rw [e_cabotageref03_SameInts_1]; rfl)
def T_judge_weak_2 (X : Rn) (t2 t3 : Value) (h : H) : Option Out :=
    k2 (vLoadN 3 t3 h) fun t122 h1 =>
    k2 (vStore 3 t2 t122 h1) fun _ h2 =>
    (vRes (some 3) t2 h2).bind fun r0 => some (.val (tupleOf [r0]) h2)
def x_judge_weak_2 : Rn → Value → Value → H → Option Out := T_judge_weak_2
theorem e_judge_weak_2 : ((fun X t2 t3 h => sh X c_judge_weak_2 (KZ_judge_weak_2 X) (setL [p2, p3] [t2, t3]) h) : Rn → Value → Value → H → Option Out) = x_judge_weak_2 := by kernel_rfl
def T_judge_weak_4 (X : Rn) (z_3 : Z) (t1 t2 t3 t4 t39 t40 : Value) (h : H) : Option Out :=
    k2 (vBin .add .other t40 (.int .i64 1) h) fun t121 h1 =>
    k2 (some (t121, h1)) fun t40_2 h3 =>
    z_3 [t1, t2, t3, t4, t39, t40_2] h3
def x_judge_weak_4 : Rn → Z → Value → Value → Value → Value → Value → Value → H → Option Out := T_judge_weak_4
theorem e_judge_weak_4 : ((fun X z_3 t1 t2 t3 t4 t39 t40 h => sh X c_judge_weak_4 (KZ_judge_weak_4 X z_3) (setL [p1, p2, p3, p4, p39, p40] [t1, t2, t3, t4, t39, t40]) h) : Rn → Z → Value → Value → Value → Value → Value → Value → H → Option Out) = x_judge_weak_4 := by kernel_rfl
def T_judge_weak_14 (X : Rn) (z_3 z_13 : Z) (t1 t2 t3 t4 t6 t39 t40 t95 t96 t97 : Value) (h : H) : Option Out :=
    k2 (vBin .add .other t97 (.int .i64 1) h) fun t120 h1 =>
    k2 (some (t120, h1)) fun t97_2 h3 =>
    z_13 [t1, t2, t3, t4, t6, t39, t40, t95, t96, t97_2] h3
def x_judge_weak_14 : Rn → Z → Z → Value → Value → Value → Value → Value → Value → Value → Value → Value → Value → H → Option Out := T_judge_weak_14
theorem e_judge_weak_14 : ((fun X z_3 z_13 t1 t2 t3 t4 t6 t39 t40 t95 t96 t97 h => sh X c_judge_weak_14 (KZ_judge_weak_14 X z_3 z_13) (setL [p1, p2, p3, p4, p6, p39, p40, p95, p96, p97] [t1, t2, t3, t4, t6, t39, t40, t95, t96, t97]) h) : Rn → Z → Z → Value → Value → Value → Value → Value → Value → Value → Value → Value → Value → H → Option Out) = x_judge_weak_14 := by kernel_rfl
def T_judge_weak_16 (X : Rn) (z_3 z_13 z_15 : Z) (t1 t2 t3 t4 t6 t14 t39 t40 t95 t96 t97 t102 t103 t104 : Value) (h : H) : Option Out :=
    k2 (vBin .add .other t104 (.int .i64 1) h) fun t119 h1 =>
    k2 (some (t119, h1)) fun t104_2 h3 =>
    z_15 [t1, t2, t3, t4, t6, t14, t39, t40, t95, t96, t97, t102, t103, t104_2] h3
def x_judge_weak_16 : Rn → Z → Z → Z → Value → Value → Value → Value → Value → Value → Value → Value → Value → Value → Value → Value → Value → Value → H → Option Out := T_judge_weak_16
theorem e_judge_weak_16 : ((fun X z_3 z_13 z_15 t1 t2 t3 t4 t6 t14 t39 t40 t95 t96 t97 t102 t103 t104 h => sh X c_judge_weak_16 (KZ_judge_weak_16 X z_3 z_13 z_15) (setL [p1, p2, p3, p4, p6, p14, p39, p40, p95, p96, p97, p102, p103, p104] [t1, t2, t3, t4, t6, t14, t39, t40, t95, t96, t97, t102, t103, t104]) h) : Rn → Z → Z → Z → Value → Value → Value → Value → Value → Value → Value → Value → Value → Value → Value → Value → Value → Value → H → Option Out) = x_judge_weak_16 := by kernel_rfl
def T_judge_weak_15 (i_judge_weak_16 : Rn → Z → Z → Z → Value → Value → Value → Value → Value → Value → Value → Value → Value → Value → Value → Value → Value → Value → H → Option Out) (i_judge_weak_14 : Rn → Z → Z → Value → Value → Value → Value → Value → Value → Value → Value → Value → Value → H → Option Out) (X : Rn) (z_3 z_13 z_15 : Z) (t1 t2 t3 t4 t6 t14 t39 t40 t95 t96 t97 t102 t103 t104 : Value) (h : H) : Option Out :=
    k2 (vBin .lss .other t104 t103 h) fun t105 h1 =>
    br t105
      (k2 (some (t104, h1)) fun t106 h2 =>
    k2 (vIndex 1 t102 t104 h2) fun t107 h3 =>
    k2 (vLoad1 t107 h3) fun t108 h4 =>
    k2 (some (t106, h4)) fun t16 h5 =>
    k2 (some (t108, h5)) fun t17 h6 =>
    k2 (some (t17, h6)) fun t109 h7 =>
    br t109
      (k2 (vField 2 t3 h7) fun t110 h8 =>
    k2 (vLoad1 t110 h8) fun t111 h9 =>
    k2 (some (t6, h9)) fun t112 h10 =>
    k2 (some (t16, h10)) fun t113 h11 =>
    k2 (some (t14, h11)) fun t114 h12 =>
    k2 ((fillL [(.int .i64 0), (.int .i64 0), (.int .i64 0)] [(0, 1, t112), (1, 1, t113), (2, 1, t114)]).map fun c => (Value.agg ⟨c⟩, h12)) fun t115 h13 =>
    k2 (vSlice 1 (fillL (repeatL [(.int .i64 0), (.int .i64 0), (.int .i64 0)] 1) [(0 * 3, 3, t115)]) h13) fun t116 h14 =>
    k2 (bltV h14 (.append 3 24) [t111, t116]) fun t117 h15 =>
    k2 (vField 2 t3 h15) fun t118 h16 =>
    k2 (vStore 1 t118 t117 h16) fun _ h17 =>
    i_judge_weak_16 X z_3 z_13 z_15 t1 t2 t3 t4 t6 t14 t39 t40 t95 t96 t97 t102 t103 t104 h17)
      (i_judge_weak_16 X z_3 z_13 z_15 t1 t2 t3 t4 t6 t14 t39 t40 t95 t96 t97 t102 t103 t104 h7))
      (i_judge_weak_14 X z_3 z_13 t1 t2 t3 t4 t6 t39 t40 t95 t96 t97 h1)
def x_judge_weak_15 : Rn → Z → Z → Z → Value → Value → Value → Value → Value → Value → Value → Value → Value → Value → Value → Value → Value → Value → H → Option Out := T_judge_weak_15 x_judge_weak_16 x_judge_weak_14
theorem e_judge_weak_15 : ((fun X z_3 z_13 z_15 t1 t2 t3 t4 t6 t14 t39 t40 t95 t96 t97 t102 t103 t104 h => sh X c_judge_weak_15 (KZ_judge_weak_15 X z_3 z_13 z_15) (setL [p1, p2, p3, p4, p6, p14, p39, p40, p95, p96, p97, p102, p103, p104] [t1, t2, t3, t4, t6, t14, t39, t40, t95, t96, t97, t102, t103, t104]) h) : Rn → Z → Z → Z → Value → Value → Value → Value → Value → Value → Value → Value → Value → Value → Value → Value → Value → Value → H → Option Out) = x_judge_weak_15 := (show ((fun X z_3 z_13 z_15 t1 t2 t3 t4 t6 t14 t39 t40 t95 t96 t97 t102 t103 t104 h => sh X c_judge_weak_15 (KZ_judge_weak_15 X z_3 z_13 z_15) (setL [p1, p2, p3, p4, p6, p14, p39, p40, p95, p96, p97, p102, p103, p104] [t1, t2, t3, t4, t6, t14, t39, t40, t95, t96, t97, t102, t103, t104]) h) : Rn → Z → Z → Z → Value → Value → Value → Value → Value → Value → Value → Value → Value → Value → Value → Value → Value → Value → H → Option Out) = T_judge_weak_15 (fun X z_3 z_13 z_15 t1 t2 t3 t4 t6 t14 t39 t40 t95 t96 t97 t102 t103 t104 h => sh X c_judge_weak_16 (KZ_judge_weak_16 X z_3 z_13 z_15) (setL [p1, p2, p3, p4, p6, p14, p39, p40, p95, p96, p97, p102, p103, p104] [t1, t2, t3, t4, t6, t14, t39, t40, t95, t96, t97, t102, t103, t104]) h) (fun X z_3 z_13 t1 t2 t3 t4 t6 t39 t40 t95 t96 t97 h => sh X c_judge_weak_14 (KZ_judge_weak_14 X z_3 z_13) (setL [p1, p2, p3, p4, p6, p39, p40, p95, p96, p97] [t1, t2, t3, t4, t6, t39, t40, t95, t96, t97]) h) by kernel_rfl).trans (by rw [e_judge_weak_16, e_judge_weak_14]; rfl)
def T_judge_weak_13 (i_judge_weak_15 : Rn → Z → Z → Z → Value → Value → Value → Value → Value → Value → Value → Value → Value → Value → Value → Value → Value → Value → H → Option Out) (i_judge_weak_4 : Rn → Z → Value → Value → Value → Value → Value → Value → H → Option Out) (X : Rn) (z_3 z_13 : Z) (t1 t2 t3 t4 t6 t39 t40 t95 t96 t97 : Value) (h : H) : Option Out :=
    k2 (vBin .lss .other t97 t96 h) fun t98 h1 =>
    br t98
      (k2 (some (t97, h1)) fun t99 h2 =>
    k2 (vIndex 1 t95 t97 h2) fun t100 h3 =>
    k2 (vLoad1 t100 h3) fun t101 h4 =>
    k2 (some (t99, h4)) fun t14 h5 =>
    k2 (some (t101, h5)) fun t15 h6 =>
    k2 (some (t15, h6)) fun t102 h7 =>
    k2 (bltV h7 .len [t102]) fun t103 h8 =>
    k2 (some ((.int .i64 0), h8)) fun t104 h9 =>
    X.loop [p1, p2, p3, p4, p6, p14, p39, p40, p95, p96, p97, p102, p103, p104] c_judge_weak_15 (kBlk 14 (kBlk 13 (kSeq X c_judge_weak_14 [p1, p2, p3, p4, p6, p39, p40, p95, p96, p97] (KZ_judge_weak_14 X z_3 z_13)))) (fun z_15 vs h => uc vs fun t1 vs => uc vs fun t2 vs => uc vs fun t3 vs => uc vs fun t4 vs => uc vs fun t6 vs => uc vs fun t14 vs => uc vs fun t39 vs => uc vs fun t40 vs => uc vs fun t95 vs => uc vs fun t96 vs => uc vs fun t97 vs => uc vs fun t102 vs => uc vs fun t103 vs => uc vs fun t104 vs => un vs (i_judge_weak_15 X z_3 z_13 z_15 t1 t2 t3 t4 t6 t14 t39 t40 t95 t96 t97 t102 t103 t104 h)) [t1, t2, t3, t4, t6, t14, t39, t40, t95, t96, t97, t102, t103, t104] h9)
      (i_judge_weak_4 X z_3 t1 t2 t3 t4 t39 t40 h1)
def x_judge_weak_13 : Rn → Z → Z → Value → Value → Value → Value → Value → Value → Value → Value → Value → Value → H → Option Out := T_judge_weak_13 x_judge_weak_15 x_judge_weak_4
theorem e_judge_weak_13 : ((fun X z_3 z_13 t1 t2 t3 t4 t6 t39 t40 t95 t96 t97 h => sh X c_judge_weak_13 (KZ_judge_weak_13 X z_3 z_13) (setL [p1, p2, p3, p4, p6, p39, p40, p95, p96, p97] [t1, t2, t3, t4, t6, t39, t40, t95, t96, t97]) h) : Rn → Z → Z → Value → Value → Value → Value → Value → Value → Value → Value → Value → Value → H → Option Out) = x_judge_weak_13 := (show ((fun X z_3 z_13 t1 t2 t3 t4 t6 t39 t40 t95 t96 t97 h => sh X c_judge_weak_13 (KZ_judge_weak_13 X z_3 z_13) (setL [p1, p2, p3, p4, p6, p39, p40, p95, p96, p97] [t1, t2, t3, t4, t6, t39, t40, t95, t96, t97]) h) : Rn → Z → Z → Value → Value → Value → Value → Value → Value → Value → Value → Value → Value → H → Option Out) = T_judge_weak_13 (fun X z_3 z_13 z_15 t1 t2 t3 t4 t6 t14 t39 t40 t95 t96 t97 t102 t103 t104 h => sh X c_judge_weak_15 (KZ_judge_weak_15 X z_3 z_13 z_15) (setL [p1, p2, p3, p4, p6, p14, p39, p40, p95, p96, p97, p102, p103, p104] [t1, t2, t3, t4, t6, t14, t39, t40, t95, t96, t97, t102, t103, t104]) h) (fun X z_3 t1 t2 t3 t4 t39 t40 h => sh X c_judge_weak_4 (KZ_judge_weak_4 X z_3) (setL [p1, p2, p3, p4, p39, p40] [t1, t2, t3, t4, t39, t40]) h) by kernel_rfl).trans (by rw [e_judge_weak_15, e_judge_weak_4]; rfl)
def T_judge_weak_7 (i_judge_weak_13 : Rn → Z → Z → Value → Value → Value → Value → Value → Value → Value → Value → Value → Value → H → Option Out) (X : Rn) (z_3 : Z) (t1 t2 t3 t4 t6 t7 t39 t40 : Value) (h : H) : Option Out :=
    k2 (vLoad1 t7 h) fun t95 h1 =>
    k2 (bltV h1 .len [t95]) fun t96 h2 =>
    k2 (some ((.int .i64 0), h2)) fun t97 h3 =>
    X.loop [p1, p2, p3, p4, p6, p39, p40, p95, p96, p97] c_judge_weak_13 (kBlk 12 (KZ_judge_weak_7 X z_3)) (fun z_13 vs h => uc vs fun t1 vs => uc vs fun t2 vs => uc vs fun t3 vs => uc vs fun t4 vs => uc vs fun t6 vs => uc vs fun t39 vs => uc vs fun t40 vs => uc vs fun t95 vs => uc vs fun t96 vs => uc vs fun t97 vs => un vs (i_judge_weak_13 X z_3 z_13 t1 t2 t3 t4 t6 t39 t40 t95 t96 t97 h)) [t1, t2, t3, t4, t6, t39, t40, t95, t96, t97] h3
def x_judge_weak_7 : Rn → Z → Value → Value → Value → Value → Value → Value → Value → Value → H → Option Out := T_judge_weak_7 x_judge_weak_13
theorem e_judge_weak_7 : ((fun X z_3 t1 t2 t3 t4 t6 t7 t39 t40 h => sh X c_judge_weak_7 (KZ_judge_weak_7 X z_3) (setL [p1, p2, p3, p4, p6, p7, p39, p40] [t1, t2, t3, t4, t6, t7, t39, t40]) h) : Rn → Z → Value → Value → Value → Value → Value → Value → Value → Value → H → Option Out) = x_judge_weak_7 := (show ((fun X z_3 t1 t2 t3 t4 t6 t7 t39 t40 h => sh X c_judge_weak_7 (KZ_judge_weak_7 X z_3) (setL [p1, p2, p3, p4, p6, p7, p39, p40] [t1, t2, t3, t4, t6, t7, t39, t40]) h) : Rn → Z → Value → Value → Value → Value → Value → Value → Value → Value → H → Option Out) = T_judge_weak_7 (fun X z_3 z_13 t1 t2 t3 t4 t6 t39 t40 t95 t96 t97 h => sh X c_judge_weak_13 (KZ_judge_weak_13 X z_3 z_13) (setL [p1, p2, p3, p4, p6, p39, p40, p95, p96, p97] [t1, t2, t3, t4, t6, t39, t40, t95, t96, t97]) h) by kernel_rfl).trans (by rw [e_judge_weak_13]; rfl)
def T_judge_weak_9 (X : Rn) (z_3 z_8 : Z) (t1 t2 t3 t4 t6 t7 t39 t40 t61 t62 t63 : Value) (h : H) : Option Out :=
    k2 (vBin .add .other t63 (.int .i64 1) h) fun t94 h1 =>
    k2 (some (t94, h1)) fun t63_2 h3 =>
    z_8 [t1, t2, t3, t4, t6, t7, t39, t40, t61, t62, t63_2] h3
def x_judge_weak_9 : Rn → Z → Z → Value → Value → Value → Value → Value → Value → Value → Value → Value → Value → Value → H → Option Out := T_judge_weak_9
theorem e_judge_weak_9 : ((fun X z_3 z_8 t1 t2 t3 t4 t6 t7 t39 t40 t61 t62 t63 h => sh X c_judge_weak_9 (KZ_judge_weak_9 X z_3 z_8) (setL [p1, p2, p3, p4, p6, p7, p39, p40, p61, p62, p63] [t1, t2, t3, t4, t6, t7, t39, t40, t61, t62, t63]) h) : Rn → Z → Z → Value → Value → Value → Value → Value → Value → Value → Value → Value → Value → Value → H → Option Out) = x_judge_weak_9 := by kernel_rfl
def T_judge_weak_12 (X : Rn) (l : Nat) (z_12 : Z) (t7 t11 t80 t81 t82 : Value) (h : H) : Option Out :=
    k2 (vBin .lss .other t82 t81 h) fun t83 h1 =>
    br t83
      (k2 (vIndex 1 t80 t82 h1) fun t84 h2 =>
    k2 (vLoad1 t84 h2) fun t85 h3 =>
    k2 (some (t85, h3)) fun t13 h4 =>
    k2 (vLoad1 t7 h4) fun t86 h5 =>
    k2 (vField 2 t11 h5) fun t87 h6 =>
    k2 (vLoad1 t87 h6) fun t88 h7 =>
    k2 (vIndex 1 t86 t88 h7) fun t89 h8 =>
    k2 (vLoad1 t89 h8) fun t90 h9 =>
    k2 (some (t13, h9)) fun t91 h10 =>
    k2 (vIndex 1 t90 t91 h10) fun t92 h11 =>
    k2 (vStore 1 t92 (.bool true) h11) fun _ h12 =>
    k2 (vBin .add .other t82 (.int .i64 1) h12) fun t93 h13 =>
    k2 (some (t93, h13)) fun t82_14 h15 =>
    z_12 [t7, t11, t80, t81, t82_14] h15)
      (fin l none h1)
def x_judge_weak_12 : Rn → Nat → Z → Value → Value → Value → Value → Value → H → Option Out := T_judge_weak_12
theorem e_judge_weak_12 : ((fun X l z_12 t7 t11 t80 t81 t82 h => sh X c_judge_weak_12 (KZ_judge_weak_12 X l z_12) (setL [p7, p11, p80, p81, p82] [t7, t11, t80, t81, t82]) h) : Rn → Nat → Z → Value → Value → Value → Value → Value → H → Option Out) = x_judge_weak_12 := by kernel_rfl
def T_judge_weak_11 (i_judge_weak_12 : Rn → Nat → Z → Value → Value → Value → Value → Value → H → Option Out) (X : Rn) (l : Nat) (t4 t7 t11 t75 : Value) (h : H) : Option Out :=
    k2 (vLoad1 t4 h) fun t76 h1 =>
    k2 (vField 1 t11 h1) fun t77 h2 =>
    k2 (vLoad1 t77 h2) fun t78 h3 =>
    k2 (vIndex 1 t76 t78 h3) fun t79 h4 =>
    k2 (vLoad1 t79 h4) fun t80 h5 =>
    k2 (bltV h5 .len [t80]) fun t81 h6 =>
    k2 (some ((.int .i64 0), h6)) fun t82 h7 =>
    X.loop [p7, p11, p80, p81, p82] c_judge_weak_12 (kBlk 10 (kBlk 9 (KZ_judge_weak_11 X l))) (fun z_12 vs h => uc vs fun t7 vs => uc vs fun t11 vs => uc vs fun t80 vs => uc vs fun t81 vs => uc vs fun t82 vs => un vs (i_judge_weak_12 X l z_12 t7 t11 t80 t81 t82 h)) [t7, t11, t80, t81, t82] h7
def x_judge_weak_11 : Rn → Nat → Value → Value → Value → Value → H → Option Out := T_judge_weak_11 x_judge_weak_12
theorem e_judge_weak_11 : ((fun X l t4 t7 t11 t75 h => sh X c_judge_weak_11 (KZ_judge_weak_11 X l) (setL [p4, p7, p11, p75] [t4, t7, t11, t75]) h) : Rn → Nat → Value → Value → Value → Value → H → Option Out) = x_judge_weak_11 := (show ((fun X l t4 t7 t11 t75 h => sh X c_judge_weak_11 (KZ_judge_weak_11 X l) (setL [p4, p7, p11, p75] [t4, t7, t11, t75]) h) : Rn → Nat → Value → Value → Value → Value → H → Option Out) = T_judge_weak_11 (fun X l z_12 t7 t11 t80 t81 t82 h => sh X c_judge_weak_12 (KZ_judge_weak_12 X l z_12) (setL [p7, p11, p80, p81, p82] [t7, t11, t80, t81, t82]) h) by kernel_rfl).trans (by rw [e_judge_weak_12]; rfl)
def T_judge_weak_10 (i_judge_weak_11 : Rn → Nat → Value → Value → Value → Value → H → Option Out) (X : Rn) (l : Nat) (args : List Value) (sl : Slots) (h : H) : Option Out :=
    (sl.get p4).bind fun t4 => (sl.get p7).bind fun t7 => uc args fun t75 args => un args (k2 (some (newPtr h [(.int .i64 0), (.int .i64 0), (.int .i64 0)])) fun t11 h1 =>
    k2 (vStore 3 t11 t75 h1) fun _ h2 =>
    busyK l h2 fun h => i_judge_weak_11 X l t4 t7 t11 t75 h)
def x_judge_weak_10 : Rn → Nat → List Value → Slots → H → Option Out := T_judge_weak_10 x_judge_weak_11
theorem e_judge_weak_10 : ((fun X l args sl h => shRound X r_judge_weak_10 l args sl h) : Rn → Nat → List Value → Slots → H → Option Out) = x_judge_weak_10 := (show ((fun X l args sl h => shRound X r_judge_weak_10 l args sl h) : Rn → Nat → List Value → Slots → H → Option Out) = T_judge_weak_10 (fun X l t4 t7 t11 t75 h => sh X c_judge_weak_11 (KZ_judge_weak_11 X l) (setL [p4, p7, p11, p75] [t4, t7, t11, t75]) h) by kernel_rfl).trans (by rw [e_judge_weak_11]; rfl)
def T_judge_weak_8 (i_judge_weak_9 : Rn → Z → Z → Value → Value → Value → Value → Value → Value → Value → Value → Value → Value → Value → H → Option Out) (i_judge_weak_2 : Rn → Value → Value → H → Option Out) (i_judge_weak_4 : Rn → Z → Value → Value → Value → Value → Value → Value → H → Option Out) (i_judge_weak_7 : Rn → Z → Value → Value → Value → Value → Value → Value → Value → Value → H → Option Out) (X : Rn) (z_3 z_8 : Z) (t1 t2 t3 t4 t6 t7 t39 t40 t61 t62 t63 : Value) (h : H) : Option Out :=
    k2 (vBin .lss .other t63 t62 h) fun t64 h1 =>
    br t64
      (k2 (vIndex 1 t61 t63 h1) fun t65 h2 =>
    k2 (vLoad1 t65 h2) fun t66 h3 =>
    k2 (some (t66, h3)) fun t10 h4 =>
    k2 (vLoad1 t7 h4) fun t67 h5 =>
    k2 (vIndex 1 t67 (.int .i64 0) h5) fun t68 h6 =>
    k2 (vLoad1 t68 h6) fun t69 h7 =>
    k2 (some (t10, h7)) fun t70 h8 =>
    k2 (vIndex 1 t69 t70 h8) fun t71 h9 =>
    k2 (vStore 1 t71 (.bool true) h9) fun _ h10 =>
    k2 (vLoadN 3 t1 h10) fun t72 h11 =>
    k2 (some (t10, h11)) fun t73 h12 =>
    k2 (X.call (.func (.func n_judge_steps) #[] #[]) [t72, t73] h12) fun t74 h13 =>
    (isFn t74).bind fun fv => k2 (X.call fv [.func (.yield h13.next) #[] #[]] (h13.new (.loop .ready none (setL [p4, p7] [t4, t7]) r_judge_weak_10))) fun _ h14 =>
    rgP h13.next h14 (fun h15 => i_judge_weak_9 X z_3 z_8 t1 t2 t3 t4 t6 t7 t39 t40 t61 t62 t63 h15) (fun i h15 => bx i 8 (i_judge_weak_9 X z_3 z_8 t1 t2 t3 t4 t6 t7 t39 t40 t61 t62 t63 h15) (bx i 7 (i_judge_weak_9 X z_3 z_8 t1 t2 t3 t4 t6 t7 t39 t40 t61 t62 t63 h15) (bx i 6 (i_judge_weak_7 X z_3 t1 t2 t3 t4 t6 t7 t39 t40 h15) (bx i 3 (i_judge_weak_4 X z_3 t1 t2 t3 t4 t39 t40 h15) (bx i 2 (i_judge_weak_2 X t2 t3 h15) (none)))))) (fun h15 => (vRes (some 3) t2 h15).bind fun r0 => some (.val (tupleOf [r0]) h15)))
      (i_judge_weak_7 X z_3 t1 t2 t3 t4 t6 t7 t39 t40 h1)
def x_judge_weak_8 : Rn → Z → Z → Value → Value → Value → Value → Value → Value → Value → Value → Value → Value → Value → H → Option Out := T_judge_weak_8 x_judge_weak_9 x_judge_weak_2 x_judge_weak_4 x_judge_weak_7
theorem e_judge_weak_8 : ((fun X z_3 z_8 t1 t2 t3 t4 t6 t7 t39 t40 t61 t62 t63 h => sh X c_judge_weak_8 (KZ_judge_weak_8 X z_3 z_8) (setL [p1, p2, p3, p4, p6, p7, p39, p40, p61, p62, p63] [t1, t2, t3, t4, t6, t7, t39, t40, t61, t62, t63]) h) : Rn → Z → Z → Value → Value → Value → Value → Value → Value → Value → Value → Value → Value → Value → H → Option Out) = x_judge_weak_8 := (show ((fun X z_3 z_8 t1 t2 t3 t4 t6 t7 t39 t40 t61 t62 t63 h => sh X c_judge_weak_8 (KZ_judge_weak_8 X z_3 z_8) (setL [p1, p2, p3, p4, p6, p7, p39, p40, p61, p62, p63] [t1, t2, t3, t4, t6, t7, t39, t40, t61, t62, t63]) h) : Rn → Z → Z → Value → Value → Value → Value → Value → Value → Value → Value → Value → Value → Value → H → Option Out) = T_judge_weak_8 (fun X z_3 z_8 t1 t2 t3 t4 t6 t7 t39 t40 t61 t62 t63 h => sh X c_judge_weak_9 (KZ_judge_weak_9 X z_3 z_8) (setL [p1, p2, p3, p4, p6, p7, p39, p40, p61, p62, p63] [t1, t2, t3, t4, t6, t7, t39, t40, t61, t62, t63]) h) (fun X t2 t3 h => sh X c_judge_weak_2 (KZ_judge_weak_2 X) (setL [p2, p3] [t2, t3]) h) (fun X z_3 t1 t2 t3 t4 t39 t40 h => sh X c_judge_weak_4 (KZ_judge_weak_4 X z_3) (setL [p1, p2, p3, p4, p39, p40] [t1, t2, t3, t4, t39, t40]) h) (fun X z_3 t1 t2 t3 t4 t6 t7 t39 t40 h => sh X c_judge_weak_7 (KZ_judge_weak_7 X z_3) (setL [p1, p2, p3, p4, p6, p7, p39, p40] [t1, t2, t3, t4, t6, t7, t39, t40]) h) by kernel_rfl).trans (by rw [e_judge_weak_9, e_judge_weak_2, e_judge_weak_4, e_judge_weak_7]; rfl)
def T_judge_weak_5 (i_judge_weak_8 : Rn → Z → Z → Value → Value → Value → Value → Value → Value → Value → Value → Value → Value → Value → H → Option Out) (X : Rn) (z_3 : Z) (t1 t2 t3 t4 t6 t7 t39 t40 : Value) (h : H) : Option Out :=
    k2 (vLoad1 t4 h) fun t58 h1 =>
    k2 (some (t6, h1)) fun t59 h2 =>
    k2 (vIndex 1 t58 t59 h2) fun t60 h3 =>
    k2 (vLoad1 t60 h3) fun t61 h4 =>
    k2 (bltV h4 .len [t61]) fun t62 h5 =>
    k2 (some ((.int .i64 0), h5)) fun t63 h6 =>
    X.loop [p1, p2, p3, p4, p6, p7, p39, p40, p61, p62, p63] c_judge_weak_8 (kBlk 6 (kSeq X c_judge_weak_7 [p1, p2, p3, p4, p6, p7, p39, p40] (KZ_judge_weak_7 X z_3))) (fun z_8 vs h => uc vs fun t1 vs => uc vs fun t2 vs => uc vs fun t3 vs => uc vs fun t4 vs => uc vs fun t6 vs => uc vs fun t7 vs => uc vs fun t39 vs => uc vs fun t40 vs => uc vs fun t61 vs => uc vs fun t62 vs => uc vs fun t63 vs => un vs (i_judge_weak_8 X z_3 z_8 t1 t2 t3 t4 t6 t7 t39 t40 t61 t62 t63 h)) [t1, t2, t3, t4, t6, t7, t39, t40, t61, t62, t63] h6
def x_judge_weak_5 : Rn → Z → Value → Value → Value → Value → Value → Value → Value → Value → H → Option Out := T_judge_weak_5 x_judge_weak_8
theorem e_judge_weak_5 : ((fun X z_3 t1 t2 t3 t4 t6 t7 t39 t40 h => sh X c_judge_weak_5 (KZ_judge_weak_5 X z_3) (setL [p1, p2, p3, p4, p6, p7, p39, p40] [t1, t2, t3, t4, t6, t7, t39, t40]) h) : Rn → Z → Value → Value → Value → Value → Value → Value → Value → Value → H → Option Out) = x_judge_weak_5 := (show ((fun X z_3 t1 t2 t3 t4 t6 t7 t39 t40 h => sh X c_judge_weak_5 (KZ_judge_weak_5 X z_3) (setL [p1, p2, p3, p4, p6, p7, p39, p40] [t1, t2, t3, t4, t6, t7, t39, t40]) h) : Rn → Z → Value → Value → Value → Value → Value → Value → Value → Value → H → Option Out) = T_judge_weak_5 (fun X z_3 z_8 t1 t2 t3 t4 t6 t7 t39 t40 t61 t62 t63 h => sh X c_judge_weak_8 (KZ_judge_weak_8 X z_3 z_8) (setL [p1, p2, p3, p4, p6, p7, p39, p40, p61, p62, p63] [t1, t2, t3, t4, t6, t7, t39, t40, t61, t62, t63]) h) by kernel_rfl).trans (by rw [e_judge_weak_8]; rfl)
def T_judge_weak_6 (i_judge_weak_5 : Rn → Z → Value → Value → Value → Value → Value → Value → Value → Value → H → Option Out) (X : Rn) (z_3 z_6 : Z) (t1 t2 t3 t4 t6 t7 t39 t40 t47 t48 : Value) (h : H) : Option Out :=
    k2 (vBin .lss .other t48 t47 h) fun t49 h1 =>
    br t49
      (k2 (some (t48, h1)) fun t50 h2 =>
    k2 (some (t50, h2)) fun t8 h3 =>
    k2 (rdF (fun b => vLoad1 t7 b) 0 h3 [(0, h3)]) fun t51 h4 =>
    k2 (some (t8, h4)) fun t52 h5 =>
    k2 (vField 0 t1 h5) fun t53 h6 =>
    k2 (rdF (fun b => vLoad1 t53 b) 0 h6 [(0, h3)]) fun t54 h7 =>
    k2 (makeSliceV 1 [(.bool false)] h7 t54 t54) fun t55 h8 =>
    k2 (vIndex 1 t51 t52 h8) fun t56 h9 =>
    k2 (vStore 1 t56 t55 h9) fun _ h10 =>
    k2 (vBin .add .other t48 (.int .i64 1) h10) fun t57 h11 =>
    k2 (some (t57, h11)) fun t48_12 h13 =>
    z_6 [t1, t2, t3, t4, t6, t7, t39, t40, t47, t48_12] h13)
      (i_judge_weak_5 X z_3 t1 t2 t3 t4 t6 t7 t39 t40 h1)
def x_judge_weak_6 : Rn → Z → Z → Value → Value → Value → Value → Value → Value → Value → Value → Value → Value → H → Option Out := T_judge_weak_6 x_judge_weak_5
theorem e_judge_weak_6 : ((fun X z_3 z_6 t1 t2 t3 t4 t6 t7 t39 t40 t47 t48 h => sh X c_judge_weak_6 (KZ_judge_weak_6 X z_3 z_6) (setL [p1, p2, p3, p4, p6, p7, p39, p40, p47, p48] [t1, t2, t3, t4, t6, t7, t39, t40, t47, t48]) h) : Rn → Z → Z → Value → Value → Value → Value → Value → Value → Value → Value → Value → Value → H → Option Out) = x_judge_weak_6 := (show ((fun X z_3 z_6 t1 t2 t3 t4 t6 t7 t39 t40 t47 t48 h => sh X c_judge_weak_6 (KZ_judge_weak_6 X z_3 z_6) (setL [p1, p2, p3, p4, p6, p7, p39, p40, p47, p48] [t1, t2, t3, t4, t6, t7, t39, t40, t47, t48]) h) : Rn → Z → Z → Value → Value → Value → Value → Value → Value → Value → Value → Value → Value → H → Option Out) = T_judge_weak_6 (fun X z_3 t1 t2 t3 t4 t6 t7 t39 t40 h => sh X c_judge_weak_5 (KZ_judge_weak_5 X z_3) (setL [p1, p2, p3, p4, p6, p7, p39, p40] [t1, t2, t3, t4, t6, t7, t39, t40]) h) by kernel_rfl).trans (by rw [e_judge_weak_5]; rfl)
def T_judge_weak_3 (i_judge_weak_6 : Rn → Z → Z → Value → Value → Value → Value → Value → Value → Value → Value → Value → Value → H → Option Out) (i_judge_weak_2 : Rn → Value → Value → H → Option Out) (X : Rn) (z_3 : Z) (t1 t2 t3 t4 t39 t40 : Value) (h : H) : Option Out :=
    k2 (vBin .lss .other t40 t39 h) fun t41 h1 =>
    br t41
      (k2 (some (t40, h1)) fun t42 h2 =>
    k2 (some (t42, h2)) fun t6 h3 =>
    k2 (vField 1 t1 h3) fun t43 h4 =>
    k2 (vLoad1 t43 h4) fun t44 h5 =>
    k2 (makeSliceV 24 [(.slice none 0 0)] h5 t44 t44) fun t45 h6 =>
    k2 (some (newPtr h6 [(.slice none 0 0)])) fun t7 h7 =>
    k2 (vStore 1 t7 t45 h7) fun _ h8 =>
    k2 (vLoad1 t7 h8) fun t46 h9 =>
    k2 (bltV h9 .len [t46]) fun t47 h10 =>
    k2 (some ((.int .i64 0), h10)) fun t48 h11 =>
    X.loop [p1, p2, p3, p4, p6, p7, p39, p40, p47, p48] c_judge_weak_6 (kBlk 4 (kSeq X c_judge_weak_5 [p1, p2, p3, p4, p6, p7, p39, p40] (KZ_judge_weak_5 X z_3))) (fun z_6 vs h => uc vs fun t1 vs => uc vs fun t2 vs => uc vs fun t3 vs => uc vs fun t4 vs => uc vs fun t6 vs => uc vs fun t7 vs => uc vs fun t39 vs => uc vs fun t40 vs => uc vs fun t47 vs => uc vs fun t48 vs => un vs (i_judge_weak_6 X z_3 z_6 t1 t2 t3 t4 t6 t7 t39 t40 t47 t48 h)) [t1, t2, t3, t4, t6, t7, t39, t40, t47, t48] h11)
      (i_judge_weak_2 X t2 t3 h1)
def x_judge_weak_3 : Rn → Z → Value → Value → Value → Value → Value → Value → H → Option Out := T_judge_weak_3 x_judge_weak_6 x_judge_weak_2
theorem e_judge_weak_3 : ((fun X z_3 t1 t2 t3 t4 t39 t40 h => sh X c_judge_weak_3 (KZ_judge_weak_3 X z_3) (setL [p1, p2, p3, p4, p39, p40] [t1, t2, t3, t4, t39, t40]) h) : Rn → Z → Value → Value → Value → Value → Value → Value → H → Option Out) = x_judge_weak_3 := (show ((fun X z_3 t1 t2 t3 t4 t39 t40 h => sh X c_judge_weak_3 (KZ_judge_weak_3 X z_3) (setL [p1, p2, p3, p4, p39, p40] [t1, t2, t3, t4, t39, t40]) h) : Rn → Z → Value → Value → Value → Value → Value → Value → H → Option Out) = T_judge_weak_3 (fun X z_3 z_6 t1 t2 t3 t4 t6 t7 t39 t40 t47 t48 h => sh X c_judge_weak_6 (KZ_judge_weak_6 X z_3 z_6) (setL [p1, p2, p3, p4, p6, p7, p39, p40, p47, p48] [t1, t2, t3, t4, t6, t7, t39, t40, t47, t48]) h) (fun X t2 t3 h => sh X c_judge_weak_2 (KZ_judge_weak_2 X) (setL [p2, p3] [t2, t3]) h) by kernel_rfl).trans (by rw [e_judge_weak_6, e_judge_weak_2]; rfl)
def T_judge_weak_0 (i_judge_weak_3 : Rn → Z → Value → Value → Value → Value → Value → Value → H → Option Out) (X : Rn) (t1 t2 t3 t4 : Value) (h : H) : Option Out :=
    k2 (vField 0 t1 h) fun t38 h1 =>
    k2 (vLoad1 t38 h1) fun t39 h2 =>
    k2 (some ((.int .i64 0), h2)) fun t40 h3 =>
    X.loop [p1, p2, p3, p4, p39, p40] c_judge_weak_3 (kBlk 2 (kSeq X c_judge_weak_2 [p2, p3] (KZ_judge_weak_2 X))) (fun z_3 vs h => uc vs fun t1 vs => uc vs fun t2 vs => uc vs fun t3 vs => uc vs fun t4 vs => uc vs fun t39 vs => uc vs fun t40 vs => un vs (i_judge_weak_3 X z_3 t1 t2 t3 t4 t39 t40 h)) [t1, t2, t3, t4, t39, t40] h3
def x_judge_weak_0 : Rn → Value → Value → Value → Value → H → Option Out := T_judge_weak_0 x_judge_weak_3
theorem e_judge_weak_0 : ((fun X t1 t2 t3 t4 h => sh X c_judge_weak_0 (KZ_judge_weak_0 X) (setL [p1, p2, p3, p4] [t1, t2, t3, t4]) h) : Rn → Value → Value → Value → Value → H → Option Out) = x_judge_weak_0 := (show ((fun X t1 t2 t3 t4 h => sh X c_judge_weak_0 (KZ_judge_weak_0 X) (setL [p1, p2, p3, p4] [t1, t2, t3, t4]) h) : Rn → Value → Value → Value → Value → H → Option Out) = T_judge_weak_0 (fun X z_3 t1 t2 t3 t4 t39 t40 h => sh X c_judge_weak_3 (KZ_judge_weak_3 X z_3) (setL [p1, p2, p3, p4, p39, p40] [t1, t2, t3, t4, t39, t40]) h) by kernel_rfl).trans (by rw [e_judge_weak_3]; rfl)
def T_judge_weak_1 (i_judge_weak_0 : Rn → Value → Value → Value → Value → H → Option Out) (X : Rn) (z_1 : Z) (t1 t2 t3 t4 t27 t28 : Value) (h : H) : Option Out :=
    k2 (vBin .lss .other t28 t27 h) fun t29 h1 =>
    br t29
      (k2 (some (t28, h1)) fun t30 h2 =>
    k2 (some (t30, h2)) fun t5 h3 =>
    k2 (rdF (fun b => vLoadN 3 t1 b) 0 h3 [(0, h3)]) fun t33 h4 =>
    k2 (some (t5, h4)) fun t34 h5 =>
    k2 (X.call (.func (.func n_judge_silent) #[] #[]) [t33, t34] h5) fun t35 h6 =>
    k2 (rdF (fun b => vLoad1 t4 b) 0 h6 [(1, h6), (0, h3)]) fun t31 h7 =>
    k2 (some (t5, h7)) fun t32 h8 =>
    k2 (vIndex 1 t31 t32 h8) fun t36 h9 =>
    k2 (vStore 1 t36 t35 h9) fun _ h10 =>
    k2 (vBin .add .other t28 (.int .i64 1) h10) fun t37 h11 =>
    k2 (some (t37, h11)) fun t28_12 h13 =>
    z_1 [t1, t2, t3, t4, t27, t28_12] h13)
      (i_judge_weak_0 X t1 t2 t3 t4 h1)
def x_judge_weak_1 : Rn → Z → Value → Value → Value → Value → Value → Value → H → Option Out := T_judge_weak_1 x_judge_weak_0
theorem e_judge_weak_1 : ((fun X z_1 t1 t2 t3 t4 t27 t28 h => sh X c_judge_weak_1 (KZ_judge_weak_1 X z_1) (setL [p1, p2, p3, p4, p27, p28] [t1, t2, t3, t4, t27, t28]) h) : Rn → Z → Value → Value → Value → Value → Value → Value → H → Option Out) = x_judge_weak_1 := (show ((fun X z_1 t1 t2 t3 t4 t27 t28 h => sh X c_judge_weak_1 (KZ_judge_weak_1 X z_1) (setL [p1, p2, p3, p4, p27, p28] [t1, t2, t3, t4, t27, t28]) h) : Rn → Z → Value → Value → Value → Value → Value → Value → H → Option Out) = T_judge_weak_1 (fun X t1 t2 t3 t4 h => sh X c_judge_weak_0 (KZ_judge_weak_0 X) (setL [p1, p2, p3, p4] [t1, t2, t3, t4]) h) by kernel_rfl).trans (by rw [e_judge_weak_0]; rfl)
def T_judge_weak (i_judge_weak_1 : Rn → Z → Value → Value → Value → Value → Value → Value → H → Option Out) (X : Rn) (args : List Value) (h : H) : Option Out :=
    uc args fun t0 args => un args (k2 (some (newPtr h (cellsL t0))) fun t1 h1 =>
    k2 (some (newPtr h1 [(.int .i64 0), (.int .i64 0), (.slice none 0 0)])) fun t2 h2 =>
    k2 (vField 0 t1 h2) fun t18 h3 =>
    k2 (vLoad1 t18 h3) fun t19 h4 =>
    k2 (vField 1 t1 h4) fun t20 h5 =>
    k2 (vLoad1 t20 h5) fun t21 h6 =>
    k2 ((fillL [(.int .i64 0), (.int .i64 0), (.slice none 0 0)] [(0, 1, t19), (1, 1, t21)]).map fun c => (Value.agg ⟨c⟩, h6)) fun t22 h7 =>
    k2 (some (newPtr h7 [(.int .i64 0), (.int .i64 0), (.slice none 0 0)])) fun t3 h8 =>
    k2 (vStore 3 t3 t22 h8) fun _ h9 =>
    k2 (vField 0 t1 h9) fun t23 h10 =>
    k2 (vLoad1 t23 h10) fun t24 h11 =>
    k2 (makeSliceV 24 [(.slice none 0 0)] h11 t24 t24) fun t25 h12 =>
    k2 (some (newPtr h12 [(.slice none 0 0)])) fun t4 h13 =>
    k2 (vStore 1 t4 t25 h13) fun _ h14 =>
    k2 (vField 0 t1 h14) fun t26 h15 =>
    k2 (vLoad1 t26 h15) fun t27 h16 =>
    k2 (some ((.int .i64 0), h16)) fun t28 h17 =>
    X.loop [p1, p2, p3, p4, p27, p28] c_judge_weak_1 (kBlk 0 (kSeq X c_judge_weak_0 [p1, p2, p3, p4] (KZ_judge_weak_0 X))) (fun z_1 vs h => uc vs fun t1 vs => uc vs fun t2 vs => uc vs fun t3 vs => uc vs fun t4 vs => uc vs fun t27 vs => uc vs fun t28 vs => un vs (i_judge_weak_1 X z_1 t1 t2 t3 t4 t27 t28 h)) [t1, t2, t3, t4, t27, t28] h17)
def x_judge_weak : Rn → List Value → H → Option Out := T_judge_weak x_judge_weak_1
theorem e_judge_weak : ((fun X args h => shFunc X 1 f_judge_weak args h) : Rn → List Value → H → Option Out) = x_judge_weak := (show ((fun X args h => shFunc X 1 f_judge_weak args h) : Rn → List Value → H → Option Out) = T_judge_weak (fun X z_1 t1 t2 t3 t4 t27 t28 h => sh X c_judge_weak_1 (KZ_judge_weak_1 X z_1) (setL [p1, p2, p3, p4, p27, p28] [t1, t2, t3, t4, t27, t28]) h) by kernel_rfl).trans (by rw [e_judge_weak_1]; rfl)
def T_judge_compare (X : Rn) (args : List Value) (h : H) : Option Out :=
    uc args fun t0 args => uc args fun t1 args => un args (k2 (some (newPtr h (cellsL t0))) fun t2 h1 =>
    k2 (some (newPtr h1 (cellsL t1))) fun t3 h2 =>
    k2 (some ((.int .i64 0), h2)) fun t4 h3 =>
    k2 (vField 0 t2 h3) fun t5 h4 =>
    k2 (rdF (fun b => vLoad1 t5 b) 0 h4 [(0, h3)]) fun t6 h5 =>
    k2 (vField 0 t3 h5) fun t7 h6 =>
    k2 (rdF (fun b => vLoad1 t7 b) 0 h6 [(0, h3)]) fun t8 h7 =>
    k2 (X.call (.func (.func n_cmp_Compare_int_) #[] #[]) [t6, t8] h7) fun t9 h8 =>
    k2 (vField 2 t2 h8) fun t10 h9 =>
    k2 (rdF (fun b => vLoad1 t10 b) 0 h9 [(1, h8), (0, h3)]) fun t11 h10 =>
    k2 (vField 2 t3 h10) fun t12 h11 =>
    k2 (rdF (fun b => vLoad1 t12 b) 0 h11 [(1, h8), (0, h3)]) fun t13 h12 =>
    k2 (X.call (.func (.func n_cmp_Compare_int_) #[] #[]) [t11, t13] h12) fun t14 h13 =>
    k2 (vField 1 t2 h13) fun t15 h14 =>
    k2 (rdF (fun b => vLoad1 t15 b) 0 h14 [(2, h13), (1, h8), (0, h3)]) fun t16 h15 =>
    k2 (vField 1 t3 h15) fun t17 h16 =>
    k2 (rdF (fun b => vLoad1 t17 b) 0 h16 [(2, h13), (1, h8), (0, h3)]) fun t18 h17 =>
    k2 (X.call (.func (.func n_cmp_Compare_int_) #[] #[]) [t16, t18] h17) fun t19 h18 =>
    k2 (vSlice 3 (fillL (repeatL [(.int .i64 0)] 3) [(0 * 1, 1, t9), (1 * 1, 1, t14), (2 * 1, 1, t19)]) h18) fun t20 h19 =>
    k2 (X.call (.func (.func n_cmp_Or_int_) #[] #[]) [t20] h19) fun t21 h20 =>
    k2 (some (t21, h20)) fun t4 h21 =>
    some (.val (tupleOf [t4]) h21))
def x_judge_compare : Rn → List Value → H → Option Out := T_judge_compare
theorem e_judge_compare : ((fun X args h => shFunc X 2 f_judge_compare args h) : Rn → List Value → H → Option Out) = x_judge_compare := by kernel_rfl
def T_cabotagelaw22_edges_0 (X : Rn) (t3 : Value) (h : H) : Option Out :=
    k2 (some (t3, h)) fun t30 h1 =>
    k2 (some (t30, h1)) fun t2 h2 =>
    some (.val (tupleOf [t2]) h2)
def x_cabotagelaw22_edges_0 : Rn → Value → H → Option Out := T_cabotagelaw22_edges_0
theorem e_cabotagelaw22_edges_0 : ((fun X t3 h => sh X c_cabotagelaw22_edges_0 (KZ_cabotagelaw22_edges_0 X) (setL [p3] [t3]) h) : Rn → Value → H → Option Out) = x_cabotagelaw22_edges_0 := by kernel_rfl
def T_cabotagelaw22_edges_1 (i_cabotagelaw22_edges_0 : Rn → Value → H → Option Out) (X : Rn) (z_1 : Z) (t0 t3 t4 : Value) (h : H) : Option Out :=
    k2 (some (t4, h)) fun t5 h1 =>
    k2 (some (t0, h1)) fun t6 h2 =>
    k2 (bltV h2 .len [t6]) fun t7 h3 =>
    k2 (vBin .lss .other t5 t7 h3) fun t8 h4 =>
    br t8
      (k2 (some (t3, h4)) fun t11 h5 =>
    k2 (some (t0, h5)) fun t12 h6 =>
    k2 (some (t4, h6)) fun t13 h7 =>
    k2 (vIndex 3 t12 t13 h7) fun t14 h8 =>
    k2 (vIndexA 3 1 t14 (.int .i64 0) h8) fun t15 h9 =>
    k2 (rdF (fun b => vLoad1 t15 b) 0 h9 [(0, h4)]) fun t16 h10 =>
    k2 (some (t0, h10)) fun t17 h11 =>
    k2 (some (t4, h11)) fun t18 h12 =>
    k2 (vIndex 3 t17 t18 h12) fun t19 h13 =>
    k2 (vIndexA 3 1 t19 (.int .i64 1) h13) fun t20 h14 =>
    k2 (rdF (fun b => vLoad1 t20 b) 0 h14 [(0, h4)]) fun t21 h15 =>
    k2 (some (t0, h15)) fun t22 h16 =>
    k2 (some (t4, h16)) fun t23 h17 =>
    k2 (vIndex 3 t22 t23 h17) fun t24 h18 =>
    k2 (vIndexA 3 1 t24 (.int .i64 2) h18) fun t25 h19 =>
    k2 (rdF (fun b => vLoad1 t25 b) 0 h19 [(0, h4)]) fun t26 h20 =>
    k2 ((fillL [(.int .i64 0), (.int .i64 0), (.int .i64 0)] [(0, 1, t16), (1, 1, t21), (2, 1, t26)]).map fun c => (Value.agg ⟨c⟩, h20)) fun t27 h21 =>
    k2 (vSlice 1 (fillL (repeatL [(.int .i64 0), (.int .i64 0), (.int .i64 0)] 1) [(0 * 3, 3, t27)]) h21) fun t28 h22 =>
    k2 (bltV h22 (.append 3 24) [t11, t28]) fun t29 h23 =>
    k2 (some (t29, h23)) fun t3_24 h25 =>
    k2 (some (t4, h25)) fun t9 h26 =>
    k2 (vBin .add .other t9 (.int .i64 1) h26) fun t10 h27 =>
    k2 (some (t10, h27)) fun t4_28 h29 =>
    z_1 [t0, t3_24, t4_28] h29)
      (i_cabotagelaw22_edges_0 X t3 h4)
def x_cabotagelaw22_edges_1 : Rn → Z → Value → Value → Value → H → Option Out := T_cabotagelaw22_edges_1 x_cabotagelaw22_edges_0
theorem e_cabotagelaw22_edges_1 : ((fun X z_1 t0 t3 t4 h => sh X c_cabotagelaw22_edges_1 (KZ_cabotagelaw22_edges_1 X z_1) (setL [p0, p3, p4] [t0, t3, t4]) h) : Rn → Z → Value → Value → Value → H → Option Out) = x_cabotagelaw22_edges_1 := (show ((fun X z_1 t0 t3 t4 h => sh X c_cabotagelaw22_edges_1 (KZ_cabotagelaw22_edges_1 X z_1) (setL [p0, p3, p4] [t0, t3, t4]) h) : Rn → Z → Value → Value → Value → H → Option Out) = T_cabotagelaw22_edges_1 (fun X t3 h => sh X c_cabotagelaw22_edges_0 (KZ_cabotagelaw22_edges_0 X) (setL [p3] [t3]) h) by kernel_rfl).trans (by rw [e_cabotagelaw22_edges_0]; rfl)
def T_cabotagelaw22_edges (i_cabotagelaw22_edges_1 : Rn → Z → Value → Value → Value → H → Option Out) (X : Rn) (args : List Value) (h : H) : Option Out :=
    uc args fun t0 args => un args (k2 (some ((.slice none 0 0), h)) fun t2 h1 =>
    k2 (some ((.slice none 0 0), h1)) fun t3 h2 =>
    k2 (some ((.int .i64 0), h2)) fun t4 h3 =>
    X.loop [p0, p3, p4] c_cabotagelaw22_edges_1 (kBlk 0 (kSeq X c_cabotagelaw22_edges_0 [p3] (KZ_cabotagelaw22_edges_0 X))) (fun z_1 vs h => uc vs fun t0 vs => uc vs fun t3 vs => uc vs fun t4 vs => un vs (i_cabotagelaw22_edges_1 X z_1 t0 t3 t4 h)) [t0, t3, t4] h3)
def x_cabotagelaw22_edges : Rn → List Value → H → Option Out := T_cabotagelaw22_edges x_cabotagelaw22_edges_1
theorem e_cabotagelaw22_edges : ((fun X args h => shFunc X 1 f_cabotagelaw22_edges args h) : Rn → List Value → H → Option Out) = x_cabotagelaw22_edges := (show ((fun X args h => shFunc X 1 f_cabotagelaw22_edges args h) : Rn → List Value → H → Option Out) = T_cabotagelaw22_edges (fun X z_1 t0 t3 t4 h => sh X c_cabotagelaw22_edges_1 (KZ_cabotagelaw22_edges_1 X z_1) (setL [p0, p3, p4] [t0, t3, t4]) h) by kernel_rfl).trans (by rw [e_cabotagelaw22_edges_1]; rfl)
def T_cabotageref22_Both_0 (X : Rn) (t4 t5 : Value) (h : H) : Option Out :=
    k2 (vLoadN 3 t5 h) fun t50 h1 =>
    k2 (vStore 3 t4 t50 h1) fun _ h2 =>
    (vRes (some 3) t4 h2).bind fun r0 => some (.val (tupleOf [r0]) h2)
def x_cabotageref22_Both_0 : Rn → Value → Value → H → Option Out := T_cabotageref22_Both_0
theorem e_cabotageref22_Both_0 : ((fun X t4 t5 h => sh X c_cabotageref22_Both_0 (KZ_cabotageref22_Both_0 X) (setL [p4, p5] [t4, t5]) h) : Rn → Value → Value → H → Option Out) = x_cabotageref22_Both_0 := by kernel_rfl
def T_cabotageref22_Both_1 (i_cabotageref22_Both_0 : Rn → Value → Value → H → Option Out) (X : Rn) (z_1 : Z) (t2 t3 t4 t5 t6 : Value) (h : H) : Option Out :=
    k2 (some (t6, h)) fun t20 h1 =>
    k2 (vField 2 t3 h1) fun t21 h2 =>
    k2 (vLoad1 t21 h2) fun t22 h3 =>
    k2 (bltV h3 .len [t22]) fun t23 h4 =>
    k2 (vBin .lss .other t20 t23 h4) fun t24 h5 =>
    br t24
      (k2 (vField 2 t3 h5) fun t27 h6 =>
    k2 (vLoad1 t27 h6) fun t28 h7 =>
    k2 (some (t6, h7)) fun t29 h8 =>
    k2 (vIndex 3 t28 t29 h8) fun t30 h9 =>
    k2 (vLoadN 3 t30 h9) fun t31 h10 =>
    k2 (some (newPtr h10 [(.int .i64 0), (.int .i64 0), (.int .i64 0)])) fun t7 h11 =>
    k2 (vStore 3 t7 t31 h11) fun _ h12 =>
    k2 (vField 2 t5 h12) fun t32 h13 =>
    k2 (vLoad1 t32 h13) fun t33 h14 =>
    k2 (vField 0 t7 h14) fun t34 h15 =>
    k2 (vLoad1 t34 h15) fun t35 h16 =>
    k2 (vField 0 t2 h16) fun t36 h17 =>
    k2 (vLoad1 t36 h17) fun t37 h18 =>
    k2 (vBin .add .other t35 t37 h18) fun t38 h19 =>
    k2 (vField 1 t7 h19) fun t39 h20 =>
    k2 (vLoad1 t39 h20) fun t40 h21 =>
    k2 (vField 0 t2 h21) fun t41 h22 =>
    k2 (vLoad1 t41 h22) fun t42 h23 =>
    k2 (vBin .add .other t40 t42 h23) fun t43 h24 =>
    k2 (vField 2 t7 h24) fun t44 h25 =>
    k2 (vLoad1 t44 h25) fun t45 h26 =>
    k2 ((fillL [(.int .i64 0), (.int .i64 0), (.int .i64 0)] [(0, 1, t38), (1, 1, t43), (2, 1, t45)]).map fun c => (Value.agg ⟨c⟩, h26)) fun t46 h27 =>
    k2 (vSlice 1 (fillL (repeatL [(.int .i64 0), (.int .i64 0), (.int .i64 0)] 1) [(0 * 3, 3, t46)]) h27) fun t47 h28 =>
    k2 (bltV h28 (.append 3 24) [t33, t47]) fun t48 h29 =>
    k2 (vField 2 t5 h29) fun t49 h30 =>
    k2 (vStore 1 t49 t48 h30) fun _ h31 =>
    k2 (some (t6, h31)) fun t25 h32 =>
    k2 (vBin .add .other t25 (.int .i64 1) h32) fun t26 h33 =>
    k2 (some (t26, h33)) fun t6_34 h35 =>
    z_1 [t2, t3, t4, t5, t6_34] h35)
      (i_cabotageref22_Both_0 X t4 t5 h5)
def x_cabotageref22_Both_1 : Rn → Z → Value → Value → Value → Value → Value → H → Option Out := T_cabotageref22_Both_1 x_cabotageref22_Both_0
theorem e_cabotageref22_Both_1 : ((fun X z_1 t2 t3 t4 t5 t6 h => sh X c_cabotageref22_Both_1 (KZ_cabotageref22_Both_1 X z_1) (setL [p2, p3, p4, p5, p6] [t2, t3, t4, t5, t6]) h) : Rn → Z → Value → Value → Value → Value → Value → H → Option Out) = x_cabotageref22_Both_1 := (show ((fun X z_1 t2 t3 t4 t5 t6 h => sh X c_cabotageref22_Both_1 (KZ_cabotageref22_Both_1 X z_1) (setL [p2, p3, p4, p5, p6] [t2, t3, t4, t5, t6]) h) : Rn → Z → Value → Value → Value → Value → Value → H → Option Out) = T_cabotageref22_Both_1 (fun X t4 t5 h => sh X c_cabotageref22_Both_0 (KZ_cabotageref22_Both_0 X) (setL [p4, p5] [t4, t5]) h) by kernel_rfl).trans (by rw [e_cabotageref22_Both_0]; rfl)
def T_cabotageref22_Both (i_cabotageref22_Both_1 : Rn → Z → Value → Value → Value → Value → Value → H → Option Out) (X : Rn) (args : List Value) (h : H) : Option Out :=
    uc args fun t0 args => uc args fun t1 args => un args (k2 (some (newPtr h (cellsL t0))) fun t2 h1 =>
    k2 (some (newPtr h1 (cellsL t1))) fun t3 h2 =>
    k2 (some (newPtr h2 [(.int .i64 0), (.int .i64 0), (.slice none 0 0)])) fun t4 h3 =>
    k2 (vSlice 0 (fillL (repeatL [(.int .i64 0), (.int .i64 0), (.int .i64 0)] 0) []) h3) fun t15 h4 =>
    k2 (vField 2 t2 h4) fun t16 h5 =>
    k2 (rdF (fun b => vLoad1 t16 b) 0 h5 [(0, h3)]) fun t17 h6 =>
    k2 (bltV h6 (.append 3 24) [t15, t17]) fun t18 h7 =>
    k2 (vField 0 t2 h7) fun t8 h8 =>
    k2 (rdF (fun b => vLoad1 t8 b) 0 h8 [(1, h7), (0, h3)]) fun t9 h9 =>
    k2 (vField 0 t3 h9) fun t10 h10 =>
    k2 (rdF (fun b => vLoad1 t10 b) 0 h10 [(1, h7), (0, h3)]) fun t11 h11 =>
    k2 (vBin .add .other t9 t11 h11) fun t12 h12 =>
    k2 (vField 1 t2 h12) fun t13 h13 =>
    k2 (rdF (fun b => vLoad1 t13 b) 0 h13 [(1, h7), (0, h3)]) fun t14 h14 =>
    k2 ((fillL [(.int .i64 0), (.int .i64 0), (.slice none 0 0)] [(0, 1, t12), (1, 1, t14), (2, 1, t18)]).map fun c => (Value.agg ⟨c⟩, h14)) fun t19 h15 =>
    k2 (some (newPtr h15 [(.int .i64 0), (.int .i64 0), (.slice none 0 0)])) fun t5 h16 =>
    k2 (vStore 3 t5 t19 h16) fun _ h17 =>
    k2 (some ((.int .i64 0), h17)) fun t6 h18 =>
    X.loop [p2, p3, p4, p5, p6] c_cabotageref22_Both_1 (kBlk 0 (kSeq X c_cabotageref22_Both_0 [p4, p5] (KZ_cabotageref22_Both_0 X))) (fun z_1 vs h => uc vs fun t2 vs => uc vs fun t3 vs => uc vs fun t4 vs => uc vs fun t5 vs => uc vs fun t6 vs => un vs (i_cabotageref22_Both_1 X z_1 t2 t3 t4 t5 t6 h)) [t2, t3, t4, t5, t6] h18)
def x_cabotageref22_Both : Rn → List Value → H → Option Out := T_cabotageref22_Both x_cabotageref22_Both_1
theorem e_cabotageref22_Both : ((fun X args h => shFunc X 2 f_cabotageref22_Both args h) : Rn → List Value → H → Option Out) = x_cabotageref22_Both := (show ((fun X args h => shFunc X 2 f_cabotageref22_Both args h) : Rn → List Value → H → Option Out) = T_cabotageref22_Both (fun X z_1 t2 t3 t4 t5 t6 h => sh X c_cabotageref22_Both_1 (KZ_cabotageref22_Both_1 X z_1) (setL [p2, p3, p4, p5, p6] [t2, t3, t4, t5, t6]) h) by kernel_rfl).trans (by rw [e_cabotageref22_Both_1]; rfl)
def T_judge_isState (X : Rn) (args : List Value) (h : H) : Option Out :=
    uc args fun t0 args => uc args fun t1 args => un args (k2 (some (newPtr h (cellsL t0))) fun t2 h1 =>
    k2 (some ((.bool false), h1)) fun t4 h2 =>
    k2 (vLoadN 3 t2 h2) fun t5 h3 =>
    k2 (X.call (.func (.func n_judge_Check) #[] #[]) [t5] h3) fun t6 h4 =>
    k2 (vBin .eql .other t6 (.int .i64 0) h4) fun t7 h5 =>
    k2 (some (t7, h5)) fun t8 h6 =>
    k2 (gd t8 true h6 (some (t1, h6))) fun t9 h7 =>
    k2 (gd t8 true h7 (vBin .geq .other t9 (.int .i64 0) h7)) fun t10 h8 =>
    k2 (vPick t8 t10 (.bool false) h8) fun t11 h9 =>
    k2 (some (t11, h9)) fun t12 h10 =>
    k2 (gd t12 true h10 (some (t1, h10))) fun t13 h11 =>
    k2 (gd t12 true h11 (vField 0 t2 h11)) fun t14 h12 =>
    k2 (gd t12 true h12 (vLoad1 t14 h12)) fun t15 h13 =>
    k2 (gd t12 true h13 (vBin .lss .other t13 t15 h13)) fun t16 h14 =>
    k2 (vPick t12 t16 (.bool false) h14) fun t17 h15 =>
    k2 (some (t17, h15)) fun t4 h16 =>
    some (.val (tupleOf [t4]) h16))
def x_judge_isState : Rn → List Value → H → Option Out := T_judge_isState
theorem e_judge_isState : ((fun X args h => shFunc X 2 f_judge_isState args h) : Rn → List Value → H → Option Out) = x_judge_isState := by kernel_rfl
def T_judge_apart_1 (X : Rn) (z_0 : Z) (t1 t3 t4 : Value) (h : H) : Option Out :=
    k2 (some (t4, h)) fun t15 h1 =>
    k2 (vBin .add .other t15 (.int .i64 1) h1) fun t16 h2 =>
    k2 (some (t16, h2)) fun t4_3 h4 =>
    z_0 [t1, t3, t4_3] h4
def x_judge_apart_1 : Rn → Z → Value → Value → Value → H → Option Out := T_judge_apart_1
theorem e_judge_apart_1 : ((fun X z_0 t1 t3 t4 h => sh X c_judge_apart_1 (KZ_judge_apart_1 X z_0) (setL [p1, p3, p4] [t1, t3, t4]) h) : Rn → Z → Value → Value → Value → H → Option Out) = x_judge_apart_1 := by kernel_rfl
def T_judge_apart_8 (i_judge_apart_1 : Rn → Z → Value → Value → Value → H → Option Out) (X : Rn) (z_0 z_8 : Z) (t1 t3 t4 t70 t71 t72 : Value) (h : H) : Option Out :=
    k2 (vBin .lss .other t72 t71 h) fun t73 h1 =>
    br t73
      (k2 (vIndex 2 t70 t72 h1) fun t74 h2 =>
    k2 (vLoadN 2 t74 h2) fun t75 h3 =>
    k2 (some (newPtr h3 [(.int .i64 0), (.int .i64 0)])) fun t13 h4 =>
    k2 (vStore 2 t13 t75 h4) fun _ h5 =>
    k2 (some (t3, h5)) fun t76 h6 =>
    k2 (rdF (fun b => vLoadN 2 t13 b) 0 h6 [(0, h5)]) fun t77 h7 =>
    k2 (some (t4, h7)) fun t84 h8 =>
    k2 (mapUpd (.leaves [0, 1]) h8 t77 t84 t76) fun _ h9 =>
    k2 (some (t3, h9)) fun t78 h10 =>
    k2 (vIndexA 2 1 t13 (.int .i64 1) h10) fun t79 h11 =>
    k2 (rdF (fun b => vLoad1 t79 b) 0 h11 [(1, h9), (0, h5)]) fun t80 h12 =>
    k2 (vIndexA 2 1 t13 (.int .i64 0) h12) fun t81 h13 =>
    k2 (rdF (fun b => vLoad1 t81 b) 0 h13 [(1, h9), (0, h5)]) fun t82 h14 =>
    k2 ((fillL [(.int .i64 0), (.int .i64 0)] [(0, 1, t80), (1, 1, t82)]).map fun c => (Value.agg ⟨c⟩, h14)) fun t83 h15 =>
    k2 (some (t4, h15)) fun t85 h16 =>
    k2 (mapUpd (.leaves [0, 1]) h16 t83 t85 t78) fun _ h17 =>
    k2 (vBin .add .other t72 (.int .i64 1) h17) fun t86 h18 =>
    k2 (some (t86, h18)) fun t72_19 h20 =>
    z_8 [t1, t3, t4, t70, t71, t72_19] h20)
      (i_judge_apart_1 X z_0 t1 t3 t4 h1)
def x_judge_apart_8 : Rn → Z → Z → Value → Value → Value → Value → Value → Value → H → Option Out := T_judge_apart_8 x_judge_apart_1
theorem e_judge_apart_8 : ((fun X z_0 z_8 t1 t3 t4 t70 t71 t72 h => sh X c_judge_apart_8 (KZ_judge_apart_8 X z_0 z_8) (setL [p1, p3, p4, p70, p71, p72] [t1, t3, t4, t70, t71, t72]) h) : Rn → Z → Z → Value → Value → Value → Value → Value → Value → H → Option Out) = x_judge_apart_8 := (show ((fun X z_0 z_8 t1 t3 t4 t70 t71 t72 h => sh X c_judge_apart_8 (KZ_judge_apart_8 X z_0 z_8) (setL [p1, p3, p4, p70, p71, p72] [t1, t3, t4, t70, t71, t72]) h) : Rn → Z → Z → Value → Value → Value → Value → Value → Value → H → Option Out) = T_judge_apart_8 (fun X z_0 t1 t3 t4 h => sh X c_judge_apart_1 (KZ_judge_apart_1 X z_0) (setL [p1, p3, p4] [t1, t3, t4]) h) by kernel_rfl).trans (by rw [e_judge_apart_1]; rfl)
def T_judge_apart_2 (i_judge_apart_8 : Rn → Z → Z → Value → Value → Value → Value → Value → Value → H → Option Out) (X : Rn) (z_0 : Z) (t1 t3 t4 t5 : Value) (h : H) : Option Out :=
    k2 (some (t5, h)) fun t66 h1 =>
    k2 (bltV h1 .len [t66]) fun t67 h2 =>
    k2 (vBin .eql .other t67 (.int .i64 0) h2) fun t68 h3 =>
    br t68
      (k2 (some (t3, h3)) fun t69 h4 =>
    k2 (some (t69, h4)) fun t2 h5 =>
    some (.val (tupleOf [t2]) h5))
      (k2 (some (t5, h3)) fun t70 h6 =>
    k2 (bltV h6 .len [t70]) fun t71 h7 =>
    k2 (some ((.int .i64 0), h7)) fun t72 h8 =>
    X.loop [p1, p3, p4, p70, p71, p72] c_judge_apart_8 (kBlk 6 (KZ_judge_apart_2 X z_0)) (fun z_8 vs h => uc vs fun t1 vs => uc vs fun t3 vs => uc vs fun t4 vs => uc vs fun t70 vs => uc vs fun t71 vs => uc vs fun t72 vs => un vs (i_judge_apart_8 X z_0 z_8 t1 t3 t4 t70 t71 t72 h)) [t1, t3, t4, t70, t71, t72] h8)
def x_judge_apart_2 : Rn → Z → Value → Value → Value → Value → H → Option Out := T_judge_apart_2 x_judge_apart_8
theorem e_judge_apart_2 : ((fun X z_0 t1 t3 t4 t5 h => sh X c_judge_apart_2 (KZ_judge_apart_2 X z_0) (setL [p1, p3, p4, p5] [t1, t3, t4, t5]) h) : Rn → Z → Value → Value → Value → Value → H → Option Out) = x_judge_apart_2 := (show ((fun X z_0 t1 t3 t4 t5 h => sh X c_judge_apart_2 (KZ_judge_apart_2 X z_0) (setL [p1, p3, p4, p5] [t1, t3, t4, t5]) h) : Rn → Z → Value → Value → Value → Value → H → Option Out) = T_judge_apart_2 (fun X z_0 z_8 t1 t3 t4 t70 t71 t72 h => sh X c_judge_apart_8 (KZ_judge_apart_8 X z_0 z_8) (setL [p1, p3, p4, p70, p71, p72] [t1, t3, t4, t70, t71, t72]) h) by kernel_rfl).trans (by rw [e_judge_apart_8]; rfl)
def T_judge_apart_4 (X : Rn) (z_0 z_3 : Z) (t1 t3 t4 t5 t18 t19 : Value) (h : H) : Option Out :=
    k2 (vBin .add .other t19 (.int .i64 1) h) fun t65 h1 =>
    k2 (some (t65, h1)) fun t19_2 h3 =>
    z_3 [t1, t3, t4, t5, t18, t19_2] h3
def x_judge_apart_4 : Rn → Z → Z → Value → Value → Value → Value → Value → Value → H → Option Out := T_judge_apart_4
theorem e_judge_apart_4 : ((fun X z_0 z_3 t1 t3 t4 t5 t18 t19 h => sh X c_judge_apart_4 (KZ_judge_apart_4 X z_0 z_3) (setL [p1, p3, p4, p5, p18, p19] [t1, t3, t4, t5, t18, t19]) h) : Rn → Z → Z → Value → Value → Value → Value → Value → Value → H → Option Out) = x_judge_apart_4 := by kernel_rfl
def T_judge_apart_6 (X : Rn) (z_0 z_3 z_5 : Z) (t1 t3 t4 t5 t6 t18 t19 t22 t23 : Value) (h : H) : Option Out :=
    k2 (vBin .add .other t23 (.int .i64 1) h) fun t64 h1 =>
    k2 (some (t64, h1)) fun t23_2 h3 =>
    z_5 [t1, t3, t4, t5, t6, t18, t19, t22, t23_2] h3
def x_judge_apart_6 : Rn → Z → Z → Z → Value → Value → Value → Value → Value → Value → Value → Value → Value → H → Option Out := T_judge_apart_6
theorem e_judge_apart_6 : ((fun X z_0 z_3 z_5 t1 t3 t4 t5 t6 t18 t19 t22 t23 h => sh X c_judge_apart_6 (KZ_judge_apart_6 X z_0 z_3 z_5) (setL [p1, p3, p4, p5, p6, p18, p19, p22, p23] [t1, t3, t4, t5, t6, t18, t19, t22, t23]) h) : Rn → Z → Z → Z → Value → Value → Value → Value → Value → Value → Value → Value → Value → H → Option Out) = x_judge_apart_6 := by kernel_rfl
def T_judge_apart_7 (i_judge_apart_6 : Rn → Z → Z → Z → Value → Value → Value → Value → Value → Value → Value → Value → Value → H → Option Out) (X : Rn) (z_0 z_3 z_5 : Z) (t1 t3 t4 t5 t6 t7 t11 t18 t19 t22 t23 : Value) (h : H) : Option Out :=
    k2 (some (t11, h)) fun t57 h1 =>
    br t57
      (k2 (some (t5, h1)) fun t58 h2 =>
    k2 (some (t6, h2)) fun t59 h3 =>
    k2 (some (t7, h3)) fun t60 h4 =>
    k2 ((fillL [(.int .i64 0), (.int .i64 0)] [(0, 1, t59), (1, 1, t60)]).map fun c => (Value.agg ⟨c⟩, h4)) fun t61 h5 =>
    k2 (vSlice 1 (fillL (repeatL [(.int .i64 0), (.int .i64 0)] 1) [(0 * 2, 2, t61)]) h5) fun t62 h6 =>
    k2 (bltV h6 (.append 2 16) [t58, t62]) fun t63 h7 =>
    k2 (some (t63, h7)) fun t5_8 h9 =>
    i_judge_apart_6 X z_0 z_3 z_5 t1 t3 t4 t5_8 t6 t18 t19 t22 t23 h9)
      (i_judge_apart_6 X z_0 z_3 z_5 t1 t3 t4 t5 t6 t18 t19 t22 t23 h1)
def x_judge_apart_7 : Rn → Z → Z → Z → Value → Value → Value → Value → Value → Value → Value → Value → Value → Value → Value → H → Option Out := T_judge_apart_7 x_judge_apart_6
theorem e_judge_apart_7 : ((fun X z_0 z_3 z_5 t1 t3 t4 t5 t6 t7 t11 t18 t19 t22 t23 h => sh X c_judge_apart_7 (KZ_judge_apart_7 X z_0 z_3 z_5) (setL [p1, p3, p4, p5, p6, p7, p11, p18, p19, p22, p23] [t1, t3, t4, t5, t6, t7, t11, t18, t19, t22, t23]) h) : Rn → Z → Z → Z → Value → Value → Value → Value → Value → Value → Value → Value → Value → Value → Value → H → Option Out) = x_judge_apart_7 := (show ((fun X z_0 z_3 z_5 t1 t3 t4 t5 t6 t7 t11 t18 t19 t22 t23 h => sh X c_judge_apart_7 (KZ_judge_apart_7 X z_0 z_3 z_5) (setL [p1, p3, p4, p5, p6, p7, p11, p18, p19, p22, p23] [t1, t3, t4, t5, t6, t7, t11, t18, t19, t22, t23]) h) : Rn → Z → Z → Z → Value → Value → Value → Value → Value → Value → Value → Value → Value → Value → Value → H → Option Out) = T_judge_apart_7 (fun X z_0 z_3 z_5 t1 t3 t4 t5 t6 t18 t19 t22 t23 h => sh X c_judge_apart_6 (KZ_judge_apart_6 X z_0 z_3 z_5) (setL [p1, p3, p4, p5, p6, p18, p19, p22, p23] [t1, t3, t4, t5, t6, t18, t19, t22, t23]) h) by kernel_rfl).trans (by rw [e_judge_apart_6]; rfl)
def T_judge_apart_5 (i_judge_apart_6 : Rn → Z → Z → Z → Value → Value → Value → Value → Value → Value → Value → Value → Value → H → Option Out) (i_judge_apart_7 : Rn → Z → Z → Z → Value → Value → Value → Value → Value → Value → Value → Value → Value → Value → Value → H → Option Out) (i_judge_apart_4 : Rn → Z → Z → Value → Value → Value → Value → Value → Value → H → Option Out) (X : Rn) (z_0 z_3 z_5 : Z) (t1 t3 t4 t5 t6 t18 t19 t22 t23 : Value) (h : H) : Option Out :=
    k2 (vBin .lss .other t23 t22 h) fun t24 h1 =>
    br t24
      (k2 (some (t23, h1)) fun t25 h2 =>
    k2 (some (t25, h2)) fun t7 h3 =>
    k2 (some (t3, h3)) fun t27 h4 =>
    k2 (some (t6, h4)) fun t28 h5 =>
    k2 (some (t7, h5)) fun t29 h6 =>
    k2 ((fillL [(.int .i64 0), (.int .i64 0)] [(0, 1, t28), (1, 1, t29)]).map fun c => (Value.agg ⟨c⟩, h6)) fun t30 h7 =>
    k2 (vLookup (.leaves [0, 1]) (.int .i64 0) true t27 t30 h7) fun t31 h8 =>
    k2 (some (t31, h8)) fun t26 h9 =>
    k2 (vExtract 0 t26 h9) fun t32 h10 =>
    k2 (vExtract 1 t26 h10) fun t33 h11 =>
    k2 (some (t32, h11)) fun t8 h12 =>
    k2 (some (t33, h12)) fun t9 h13 =>
    k2 (some (t9, h13)) fun t34 h14 =>
    br t34
      (i_judge_apart_6 X z_0 z_3 z_5 t1 t3 t4 t5 t6 t18 t19 t22 t23 h14)
      (k2 (some (t3, h14)) fun t36 h15 =>
    k2 (vLoadN 3 t1 h15) fun t37 h16 =>
    k2 (some (t6, h16)) fun t38 h17 =>
    k2 (some (t7, h17)) fun t39 h18 =>
    k2 (some (t4, h18)) fun t40 h19 =>
    k2 (vBin .sub .other t40 (.int .i64 1) h19) fun t41 h20 =>
    k2 (X.call (.func (.func n_judge_rounds_first) #[] #[]) [t36, t37, t38, t39, t41] h20) fun t42 h21 =>
    k2 (some (t42, h21)) fun t35 h22 =>
    k2 (vExtract 0 t35 h22) fun t43 h23 =>
    k2 (vExtract 1 t35 h23) fun t44 h24 =>
    k2 (some (newPtr h24 [(.int .i64 0), (.int .i64 0), (.int .i64 0)])) fun t10 h25 =>
    k2 (vStore 3 t10 t43 h25) fun _ h26 =>
    k2 (some (t44, h26)) fun t11 h27 =>
    k2 (some (t11, h27)) fun t45 h28 =>
    k2 (vUn .not t45 h28) fun t46 h29 =>
    br t46
      (k2 (some (t3, h29)) fun t48 h30 =>
    k2 (vLoadN 3 t1 h30) fun t49 h31 =>
    k2 (some (t7, h31)) fun t50 h32 =>
    k2 (some (t6, h32)) fun t51 h33 =>
    k2 (some (t4, h33)) fun t52 h34 =>
    k2 (vBin .sub .other t52 (.int .i64 1) h34) fun t53 h35 =>
    k2 (X.call (.func (.func n_judge_rounds_first) #[] #[]) [t48, t49, t50, t51, t53] h35) fun t54 h36 =>
    k2 (some (t54, h36)) fun t47 h37 =>
    k2 (vExtract 0 t47 h37) fun t55 h38 =>
    k2 (vExtract 1 t47 h38) fun t56 h39 =>
    k2 (some (t56, h39)) fun t11_40 h41 =>
    i_judge_apart_7 X z_0 z_3 z_5 t1 t3 t4 t5 t6 t7 t11_40 t18 t19 t22 t23 h41)
      (i_judge_apart_7 X z_0 z_3 z_5 t1 t3 t4 t5 t6 t7 t11 t18 t19 t22 t23 h29)))
      (i_judge_apart_4 X z_0 z_3 t1 t3 t4 t5 t18 t19 h1)
def x_judge_apart_5 : Rn → Z → Z → Z → Value → Value → Value → Value → Value → Value → Value → Value → Value → H → Option Out := T_judge_apart_5 x_judge_apart_6 x_judge_apart_7 x_judge_apart_4
theorem e_judge_apart_5 : ((fun X z_0 z_3 z_5 t1 t3 t4 t5 t6 t18 t19 t22 t23 h => sh X c_judge_apart_5 (KZ_judge_apart_5 X z_0 z_3 z_5) (setL [p1, p3, p4, p5, p6, p18, p19, p22, p23] [t1, t3, t4, t5, t6, t18, t19, t22, t23]) h) : Rn → Z → Z → Z → Value → Value → Value → Value → Value → Value → Value → Value → Value → H → Option Out) = x_judge_apart_5 := (show ((fun X z_0 z_3 z_5 t1 t3 t4 t5 t6 t18 t19 t22 t23 h => sh X c_judge_apart_5 (KZ_judge_apart_5 X z_0 z_3 z_5) (setL [p1, p3, p4, p5, p6, p18, p19, p22, p23] [t1, t3, t4, t5, t6, t18, t19, t22, t23]) h) : Rn → Z → Z → Z → Value → Value → Value → Value → Value → Value → Value → Value → Value → H → Option Out) = T_judge_apart_5 (fun X z_0 z_3 z_5 t1 t3 t4 t5 t6 t18 t19 t22 t23 h => sh X c_judge_apart_6 (KZ_judge_apart_6 X z_0 z_3 z_5) (setL [p1, p3, p4, p5, p6, p18, p19, p22, p23] [t1, t3, t4, t5, t6, t18, t19, t22, t23]) h) (fun X z_0 z_3 z_5 t1 t3 t4 t5 t6 t7 t11 t18 t19 t22 t23 h => sh X c_judge_apart_7 (KZ_judge_apart_7 X z_0 z_3 z_5) (setL [p1, p3, p4, p5, p6, p7, p11, p18, p19, p22, p23] [t1, t3, t4, t5, t6, t7, t11, t18, t19, t22, t23]) h) (fun X z_0 z_3 t1 t3 t4 t5 t18 t19 h => sh X c_judge_apart_4 (KZ_judge_apart_4 X z_0 z_3) (setL [p1, p3, p4, p5, p18, p19] [t1, t3, t4, t5, t18, t19]) h) by kernel_rfl).trans (by rw [e_judge_apart_6, e_judge_apart_7, e_judge_apart_4]; rfl)
def T_judge_apart_3 (i_judge_apart_5 : Rn → Z → Z → Z → Value → Value → Value → Value → Value → Value → Value → Value → Value → H → Option Out) (i_judge_apart_2 : Rn → Z → Value → Value → Value → Value → H → Option Out) (X : Rn) (z_0 z_3 : Z) (t1 t3 t4 t5 t18 t19 : Value) (h : H) : Option Out :=
    k2 (vBin .lss .other t19 t18 h) fun t20 h1 =>
    br t20
      (k2 (some (t19, h1)) fun t21 h2 =>
    k2 (some (t21, h2)) fun t6 h3 =>
    k2 (some (t6, h3)) fun t22 h4 =>
    k2 (some ((.int .i64 0), h4)) fun t23 h5 =>
    X.loop [p1, p3, p4, p5, p6, p18, p19, p22, p23] c_judge_apart_5 (kBlk 4 (kBlk 3 (kSeq X c_judge_apart_4 [p1, p3, p4, p5, p18, p19] (KZ_judge_apart_4 X z_0 z_3)))) (fun z_5 vs h => uc vs fun t1 vs => uc vs fun t3 vs => uc vs fun t4 vs => uc vs fun t5 vs => uc vs fun t6 vs => uc vs fun t18 vs => uc vs fun t19 vs => uc vs fun t22 vs => uc vs fun t23 vs => un vs (i_judge_apart_5 X z_0 z_3 z_5 t1 t3 t4 t5 t6 t18 t19 t22 t23 h)) [t1, t3, t4, t5, t6, t18, t19, t22, t23] h5)
      (i_judge_apart_2 X z_0 t1 t3 t4 t5 h1)
def x_judge_apart_3 : Rn → Z → Z → Value → Value → Value → Value → Value → Value → H → Option Out := T_judge_apart_3 x_judge_apart_5 x_judge_apart_2
theorem e_judge_apart_3 : ((fun X z_0 z_3 t1 t3 t4 t5 t18 t19 h => sh X c_judge_apart_3 (KZ_judge_apart_3 X z_0 z_3) (setL [p1, p3, p4, p5, p18, p19] [t1, t3, t4, t5, t18, t19]) h) : Rn → Z → Z → Value → Value → Value → Value → Value → Value → H → Option Out) = x_judge_apart_3 := (show ((fun X z_0 z_3 t1 t3 t4 t5 t18 t19 h => sh X c_judge_apart_3 (KZ_judge_apart_3 X z_0 z_3) (setL [p1, p3, p4, p5, p18, p19] [t1, t3, t4, t5, t18, t19]) h) : Rn → Z → Z → Value → Value → Value → Value → Value → Value → H → Option Out) = T_judge_apart_3 (fun X z_0 z_3 z_5 t1 t3 t4 t5 t6 t18 t19 t22 t23 h => sh X c_judge_apart_5 (KZ_judge_apart_5 X z_0 z_3 z_5) (setL [p1, p3, p4, p5, p6, p18, p19, p22, p23] [t1, t3, t4, t5, t6, t18, t19, t22, t23]) h) (fun X z_0 t1 t3 t4 t5 h => sh X c_judge_apart_2 (KZ_judge_apart_2 X z_0) (setL [p1, p3, p4, p5] [t1, t3, t4, t5]) h) by kernel_rfl).trans (by rw [e_judge_apart_5, e_judge_apart_2]; rfl)
def T_judge_apart_0 (i_judge_apart_3 : Rn → Z → Z → Value → Value → Value → Value → Value → Value → H → Option Out) (X : Rn) (z_0 : Z) (t1 t3 t4 : Value) (h : H) : Option Out :=
    k2 (some ((.slice none 0 0), h)) fun t5 h1 =>
    k2 (vField 0 t1 h1) fun t17 h2 =>
    k2 (vLoad1 t17 h2) fun t18 h3 =>
    k2 (some ((.int .i64 0), h3)) fun t19 h4 =>
    X.loop [p1, p3, p4, p5, p18, p19] c_judge_apart_3 (kBlk 2 (kSeq X c_judge_apart_2 [p1, p3, p4, p5] (KZ_judge_apart_2 X z_0))) (fun z_3 vs h => uc vs fun t1 vs => uc vs fun t3 vs => uc vs fun t4 vs => uc vs fun t5 vs => uc vs fun t18 vs => uc vs fun t19 vs => un vs (i_judge_apart_3 X z_0 z_3 t1 t3 t4 t5 t18 t19 h)) [t1, t3, t4, t5, t18, t19] h4
def x_judge_apart_0 : Rn → Z → Value → Value → Value → H → Option Out := T_judge_apart_0 x_judge_apart_3
theorem e_judge_apart_0 : ((fun X z_0 t1 t3 t4 h => sh X c_judge_apart_0 (KZ_judge_apart_0 X z_0) (setL [p1, p3, p4] [t1, t3, t4]) h) : Rn → Z → Value → Value → Value → H → Option Out) = x_judge_apart_0 := (show ((fun X z_0 t1 t3 t4 h => sh X c_judge_apart_0 (KZ_judge_apart_0 X z_0) (setL [p1, p3, p4] [t1, t3, t4]) h) : Rn → Z → Value → Value → Value → H → Option Out) = T_judge_apart_0 (fun X z_0 z_3 t1 t3 t4 t5 t18 t19 h => sh X c_judge_apart_3 (KZ_judge_apart_3 X z_0 z_3) (setL [p1, p3, p4, p5, p18, p19] [t1, t3, t4, t5, t18, t19]) h) by kernel_rfl).trans (by rw [e_judge_apart_3]; rfl)
def T_judge_apart (i_judge_apart_0 : Rn → Z → Value → Value → Value → H → Option Out) (X : Rn) (args : List Value) (h : H) : Option Out :=
    uc args fun t0 args => un args (k2 (some (newPtr h (cellsL t0))) fun t1 h1 =>
    k2 (some ((.map none), h1)) fun t2 h2 =>
    k2 (some (.map (some h2.next), h2.new (.map [] 0))) fun t14 h3 =>
    k2 (some (t14, h3)) fun t3 h4 =>
    k2 (some ((.int .i64 1), h4)) fun t4 h5 =>
    X.loop [p1, p3, p4] c_judge_apart_0 (kBlk 0 (fnK [.tmp p2])) (fun z_0 vs h => uc vs fun t1 vs => uc vs fun t3 vs => uc vs fun t4 vs => un vs (i_judge_apart_0 X z_0 t1 t3 t4 h)) [t1, t3, t4] h5)
def x_judge_apart : Rn → List Value → H → Option Out := T_judge_apart x_judge_apart_0
theorem e_judge_apart : ((fun X args h => shFunc X 1 f_judge_apart args h) : Rn → List Value → H → Option Out) = x_judge_apart := (show ((fun X args h => shFunc X 1 f_judge_apart args h) : Rn → List Value → H → Option Out) = T_judge_apart (fun X z_0 t1 t3 t4 h => sh X c_judge_apart_0 (KZ_judge_apart_0 X z_0) (setL [p1, p3, p4] [t1, t3, t4]) h) by kernel_rfl).trans (by rw [e_judge_apart_0]; rfl)
def T_judge_teller_size_0 (X : Rn) (t3 t7 t10 : Value) (h : H) : Option Out :=
    k2 (vField 4 t3 h) fun t63 h1 =>
    k2 (vLoad1 t63 h1) fun t64 h2 =>
    k2 (vLoadN 2 t7 h2) fun t65 h3 =>
    k2 (vLoad1 t10 h3) fun t66 h4 =>
    k2 (mapUpd (.leaves [0, 1]) h4 t65 t66 t64) fun _ h5 =>
    k2 (vLoad1 t10 h5) fun t67 h6 =>
    k2 (some (t67, h6)) fun t6 h7 =>
    some (.val (tupleOf [t6]) h7)
def x_judge_teller_size_0 : Rn → Value → Value → Value → H → Option Out := T_judge_teller_size_0
theorem e_judge_teller_size_0 : ((fun X t3 t7 t10 h => sh X c_judge_teller_size_0 (KZ_judge_teller_size_0 X) (setL [p3, p7, p10] [t3, t7, t10]) h) : Rn → Value → Value → Value → H → Option Out) = x_judge_teller_size_0 := by kernel_rfl
def T_judge_teller_size_2 (X : Rn) (l : Nat) (t3 t10 t11 t13 t48 : Value) (h : H) : Option Out :=
    k2 (rdF (fun b => vLoadN 5 t3 b) 0 h [(0, h)]) fun t50 h1 =>
    k2 (vField 1 t11 h1) fun t51 h2 =>
    k2 (rdF (fun b => vLoad1 t51 b) 0 h2 [(0, h)]) fun t52 h3 =>
    k2 (some (t13, h3)) fun t53 h4 =>
    k2 (X.call (.func (.func n_judge_teller_size) #[] #[]) [t50, t52, t53] h4) fun t54 h5 =>
    k2 (rdF (fun b => vLoad1 t10 b) 0 h5 [(1, h5), (0, h)]) fun t49 h6 =>
    k2 (vBin .add .other t49 t54 h6) fun t55 h7 =>
    k2 (bltV h7 .min [t55, (.int .i64 3001)]) fun t56 h8 =>
    k2 (vStore 1 t10 t56 h8) fun _ h9 =>
    fin l none h9
def x_judge_teller_size_2 : Rn → Nat → Value → Value → Value → Value → Value → H → Option Out := T_judge_teller_size_2
theorem e_judge_teller_size_2 : ((fun X l t3 t10 t11 t13 t48 h => sh X c_judge_teller_size_2 (KZ_judge_teller_size_2 X l) (setL [p3, p10, p11, p13, p48] [t3, t10, t11, t13, t48]) h) : Rn → Nat → Value → Value → Value → Value → Value → H → Option Out) = x_judge_teller_size_2 := by kernel_rfl
def T_judge_teller_size_1 (i_judge_teller_size_2 : Rn → Nat → Value → Value → Value → Value → Value → H → Option Out) (X : Rn) (l : Nat) (args : List Value) (sl : Slots) (h : H) : Option Out :=
    (sl.get p3).bind fun t3 => (sl.get p10).bind fun t10 => (sl.get p11).bind fun t11 => uc args fun t48 args => un args (k2 (some (t48, h)) fun t13 h1 =>
    busyK l h1 fun h => i_judge_teller_size_2 X l t3 t10 t11 t13 t48 h)
def x_judge_teller_size_1 : Rn → Nat → List Value → Slots → H → Option Out := T_judge_teller_size_1 x_judge_teller_size_2
theorem e_judge_teller_size_1 : ((fun X l args sl h => shRound X r_judge_teller_size_1 l args sl h) : Rn → Nat → List Value → Slots → H → Option Out) = x_judge_teller_size_1 := (show ((fun X l args sl h => shRound X r_judge_teller_size_1 l args sl h) : Rn → Nat → List Value → Slots → H → Option Out) = T_judge_teller_size_1 (fun X l t3 t10 t11 t13 t48 h => sh X c_judge_teller_size_2 (KZ_judge_teller_size_2 X l) (setL [p3, p10, p11, p13, p48] [t3, t10, t11, t13, t48]) h) by kernel_rfl).trans (by rw [e_judge_teller_size_2]; rfl)
def T_judge_teller_size (i_judge_teller_size_0 : Rn → Value → Value → Value → H → Option Out) (X : Rn) (args : List Value) (h : H) : Option Out :=
    uc args fun t0 args => uc args fun t1 args => uc args fun t2 args => un args (k2 (some (newPtr h (cellsL t0))) fun t3 h1 =>
    k2 (some ((.int .i64 0), h1)) fun t6 h2 =>
    k2 (some (t1, h2)) fun t14 h3 =>
    k2 (some (t2, h3)) fun t15 h4 =>
    k2 ((fillL [(.int .i64 0), (.int .i64 0)] [(0, 1, t14), (1, 1, t15)]).map fun c => (Value.agg ⟨c⟩, h4)) fun t16 h5 =>
    k2 (some (newPtr h5 [(.int .i64 0), (.int .i64 0)])) fun t7 h6 =>
    k2 (vStore 2 t7 t16 h6) fun _ h7 =>
    k2 (vField 4 t3 h7) fun t18 h8 =>
    k2 (vLoad1 t18 h8) fun t19 h9 =>
    k2 (vLoadN 2 t7 h9) fun t20 h10 =>
    k2 (vLookup (.leaves [0, 1]) (.int .i64 0) true t19 t20 h10) fun t21 h11 =>
    k2 (some (t21, h11)) fun t17 h12 =>
    k2 (vExtract 0 t17 h12) fun t22 h13 =>
    k2 (vExtract 1 t17 h13) fun t23 h14 =>
    k2 (some (t22, h14)) fun t8 h15 =>
    k2 (some (t23, h15)) fun t9 h16 =>
    k2 (some (t9, h16)) fun t24 h17 =>
    br t24
      (k2 (some (t8, h17)) fun t25 h18 =>
    k2 (some (t25, h18)) fun t6_19 h20 =>
    some (.val (tupleOf [t6_19]) h20))
      (k2 (some (newPtr h17 [(.int .i64 0)])) fun t10 h21 =>
    k2 (vStore 1 t10 (.int .i64 1) h21) fun _ h22 =>
    k2 (vField 0 t3 h22) fun t27 h23 =>
    k2 (rdF (fun b => vLoad1 t27 b) 0 h23 [(0, h22)]) fun t28 h24 =>
    k2 (vField 1 t3 h24) fun t29 h25 =>
    k2 (rdF (fun b => vLoadN 3 t29 b) 0 h25 [(0, h22)]) fun t30 h26 =>
    k2 (some (t1, h26)) fun t31 h27 =>
    k2 (some (t2, h27)) fun t32 h28 =>
    k2 (vField 0 t3 h28) fun t33 h29 =>
    k2 (rdF (fun b => vLoad1 t33 b) 0 h29 [(0, h22)]) fun t34 h30 =>
    k2 (rdF (fun b => vLoadN 2 t7 b) 0 h30 [(0, h22)]) fun t35 h31 =>
    k2 (rdF (fun b => vLookup (.leaves [0, 1]) (.int .i64 0) false t34 t35 b) 0 h31 [(0, h22)]) fun t36 h32 =>
    k2 (vBin .sub .other t36 (.int .i64 1) h32) fun t37 h33 =>
    k2 (X.call (.func (.func n_judge_rounds_first) #[] #[]) [t28, t30, t31, t32, t37] h33) fun t38 h34 =>
    k2 (some (t38, h34)) fun t26 h35 =>
    k2 (vExtract 0 t26 h35) fun t39 h36 =>
    k2 (some (newPtr h36 [(.int .i64 0), (.int .i64 0), (.int .i64 0)])) fun t11 h37 =>
    k2 (vStore 3 t11 t39 h37) fun _ h38 =>
    k2 (vExtract 1 t26 h38) fun t40 h39 =>
    k2 (some (t40, h39)) fun t12 h40 =>
    k2 (some (t12, h40)) fun t41 h41 =>
    br t41
      (k2 (vStore 1 t10 (.int .i64 2) h41) fun _ h42 =>
    k2 (vField 1 t3 h42) fun t42 h43 =>
    k2 (vLoadN 3 t42 h43) fun t43 h44 =>
    k2 (some (t2, h44)) fun t44 h45 =>
    k2 (vField 2 t11 h45) fun t45 h46 =>
    k2 (vLoad1 t45 h46) fun t46 h47 =>
    k2 (X.call (.func (.func n_judge_leads) #[] #[]) [t43, t44, t46] h47) fun t47 h48 =>
    (isFn t47).bind fun fv => k2 (X.call fv [.func (.yield h48.next) #[] #[]] (h48.new (.loop .ready none (setL [p3, p10, p11] [t3, t10, t11]) r_judge_teller_size_1))) fun _ h49 =>
    rgP h48.next h49 (fun h50 => i_judge_teller_size_0 X t3 t7 t10 h50) (fun i h50 => bx i 0 (i_judge_teller_size_0 X t3 t7 t10 h50) (none)) (fun h50 => some (.val (tupleOf [t6]) h50)))
      (k2 (vLoadN 5 t3 h41) fun t57 h51 =>
    k2 (some (t2, h51)) fun t58 h52 =>
    k2 (some (t1, h52)) fun t59 h53 =>
    k2 (X.call (.func (.func n_judge_teller_size) #[] #[]) [t57, t58, t59] h53) fun t60 h54 =>
    k2 (vBin .add .other (.int .i64 1) t60 h54) fun t61 h55 =>
    k2 (bltV h55 .min [t61, (.int .i64 3001)]) fun t62 h56 =>
    k2 (vStore 1 t10 t62 h56) fun _ h57 =>
    i_judge_teller_size_0 X t3 t7 t10 h57)))
def x_judge_teller_size : Rn → List Value → H → Option Out := T_judge_teller_size x_judge_teller_size_0
theorem e_judge_teller_size : ((fun X args h => shFunc X 3 f_judge_teller_size args h) : Rn → List Value → H → Option Out) = x_judge_teller_size := (show ((fun X args h => shFunc X 3 f_judge_teller_size args h) : Rn → List Value → H → Option Out) = T_judge_teller_size (fun X t3 t7 t10 h => sh X c_judge_teller_size_0 (KZ_judge_teller_size_0 X) (setL [p3, p7, p10] [t3, t7, t10]) h) by kernel_rfl).trans (by rw [e_judge_teller_size_0]; rfl)
def T_judge_teller_formula_0 (X : Rn) (t6 t7 t9 : Value) (h : H) : Option Out :=
    k2 (vField 2 t7 h) fun t56 h1 =>
    k2 (vLoad1 t56 h1) fun t57 h2 =>
    k2 (vLoadN 3 t9 h2) fun t58 h3 =>
    k2 (vSlice 1 (fillL (repeatL [(.int .i64 0), (.int .i64 0), (.slice none 0 0)] 1) [(0 * 3, 3, t58)]) h3) fun t59 h4 =>
    k2 ((fillL [(.int .i64 0), (.int .i64 0), (.slice none 0 0)] [(0, 1, (.int .i64 4)), (1, 1, t57), (2, 1, t59)]).map fun c => (Value.agg ⟨c⟩, h4)) fun t60 h5 =>
    k2 (vStore 3 t6 t60 h5) fun _ h6 =>
    (vRes (some 3) t6 h6).bind fun r0 => some (.val (tupleOf [r0]) h6)
def x_judge_teller_formula_0 : Rn → Value → Value → Value → H → Option Out := T_judge_teller_formula_0
theorem e_judge_teller_formula_0 : ((fun X t6 t7 t9 h => sh X c_judge_teller_formula_0 (KZ_judge_teller_formula_0 X) (setL [p6, p7, p9] [t6, t7, t9]) h) : Rn → Value → Value → Value → H → Option Out) = x_judge_teller_formula_0 := by kernel_rfl
def T_judge_teller_formula_2 (X : Rn) (l : Nat) (t3 t7 t9 t10 t43 : Value) (h : H) : Option Out :=
    k2 (rdF (fun b => vLoadN 5 t3 b) 0 h [(0, h)]) fun t46 h1 =>
    k2 (vField 1 t7 h1) fun t47 h2 =>
    k2 (rdF (fun b => vLoad1 t47 b) 0 h2 [(0, h)]) fun t48 h3 =>
    k2 (some (t10, h3)) fun t49 h4 =>
    k2 (X.call (.func (.func n_judge_teller_formula) #[] #[]) [t46, t48, t49] h4) fun t50 h5 =>
    k2 (vField 2 t9 h5) fun t44 h6 =>
    k2 (rdF (fun b => vLoad1 t44 b) 0 h6 [(1, h5), (0, h)]) fun t45 h7 =>
    k2 (bltV h7 .len [t45]) fun t51 h8 =>
    k2 (vSlice 1 (fillL (repeatL [(.int .i64 0), (.int .i64 0), (.slice none 0 0)] 1) [(0 * 3, 3, (.agg ⟨[(.int .i64 0), (.int .i64 0), (.slice none 0 0)]⟩))]) h8) fun t52 h9 =>
    k2 (bltV h9 (.append 3 40) [t45, t52]) fun t53 h10 =>
    k2 (vIndex 3 t53 t51 h10) fun t54 h11 =>
    k2 (vField 2 t9 h11) fun t55 h12 =>
    st2 (store2 3 t54 t50 1 t55 t53 h12) fun h13 =>
    fin l none h13
def x_judge_teller_formula_2 : Rn → Nat → Value → Value → Value → Value → Value → H → Option Out := T_judge_teller_formula_2
theorem e_judge_teller_formula_2 : ((fun X l t3 t7 t9 t10 t43 h => sh X c_judge_teller_formula_2 (KZ_judge_teller_formula_2 X l) (setL [p3, p7, p9, p10, p43] [t3, t7, t9, t10, t43]) h) : Rn → Nat → Value → Value → Value → Value → Value → H → Option Out) = x_judge_teller_formula_2 := by kernel_rfl
def T_judge_teller_formula_1 (i_judge_teller_formula_2 : Rn → Nat → Value → Value → Value → Value → Value → H → Option Out) (X : Rn) (l : Nat) (args : List Value) (sl : Slots) (h : H) : Option Out :=
    (sl.get p3).bind fun t3 => (sl.get p7).bind fun t7 => (sl.get p9).bind fun t9 => uc args fun t43 args => un args (k2 (some (t43, h)) fun t10 h1 =>
    busyK l h1 fun h => i_judge_teller_formula_2 X l t3 t7 t9 t10 t43 h)
def x_judge_teller_formula_1 : Rn → Nat → List Value → Slots → H → Option Out := T_judge_teller_formula_1 x_judge_teller_formula_2
theorem e_judge_teller_formula_1 : ((fun X l args sl h => shRound X r_judge_teller_formula_1 l args sl h) : Rn → Nat → List Value → Slots → H → Option Out) = x_judge_teller_formula_1 := (show ((fun X l args sl h => shRound X r_judge_teller_formula_1 l args sl h) : Rn → Nat → List Value → Slots → H → Option Out) = T_judge_teller_formula_1 (fun X l t3 t7 t9 t10 t43 h => sh X c_judge_teller_formula_2 (KZ_judge_teller_formula_2 X l) (setL [p3, p7, p9, p10, p43] [t3, t7, t9, t10, t43]) h) by kernel_rfl).trans (by rw [e_judge_teller_formula_2]; rfl)
def T_judge_teller_formula (i_judge_teller_formula_0 : Rn → Value → Value → Value → H → Option Out) (X : Rn) (args : List Value) (h : H) : Option Out :=
    uc args fun t0 args => uc args fun t1 args => uc args fun t2 args => un args (k2 (some (newPtr h (cellsL t0))) fun t3 h1 =>
    k2 (some (newPtr h1 [(.int .i64 0), (.int .i64 0), (.slice none 0 0)])) fun t6 h2 =>
    k2 (vField 0 t3 h2) fun t12 h3 =>
    k2 (rdF (fun b => vLoad1 t12 b) 0 h3 [(0, h2)]) fun t13 h4 =>
    k2 (vField 1 t3 h4) fun t14 h5 =>
    k2 (rdF (fun b => vLoadN 3 t14 b) 0 h5 [(0, h2)]) fun t15 h6 =>
    k2 (some (t1, h6)) fun t16 h7 =>
    k2 (some (t2, h7)) fun t17 h8 =>
    k2 (vField 0 t3 h8) fun t18 h9 =>
    k2 (rdF (fun b => vLoad1 t18 b) 0 h9 [(0, h2)]) fun t19 h10 =>
    k2 (some (t1, h10)) fun t20 h11 =>
    k2 (some (t2, h11)) fun t21 h12 =>
    k2 ((fillL [(.int .i64 0), (.int .i64 0)] [(0, 1, t20), (1, 1, t21)]).map fun c => (Value.agg ⟨c⟩, h12)) fun t22 h13 =>
    k2 (rdF (fun b => vLookup (.leaves [0, 1]) (.int .i64 0) false t19 t22 b) 0 h13 [(0, h2)]) fun t23 h14 =>
    k2 (vBin .sub .other t23 (.int .i64 1) h14) fun t24 h15 =>
    k2 (X.call (.func (.func n_judge_rounds_first) #[] #[]) [t13, t15, t16, t17, t24] h15) fun t25 h16 =>
    k2 (some (t25, h16)) fun t11 h17 =>
    k2 (vExtract 0 t11 h17) fun t26 h18 =>
    k2 (some (newPtr h18 [(.int .i64 0), (.int .i64 0), (.int .i64 0)])) fun t7 h19 =>
    k2 (vStore 3 t7 t26 h19) fun _ h20 =>
    k2 (vExtract 1 t11 h20) fun t27 h21 =>
    k2 (some (t27, h21)) fun t8 h22 =>
    k2 (some (t8, h22)) fun t28 h23 =>
    k2 (vUn .not t28 h23) fun t29 h24 =>
    br t29
      (k2 (vLoadN 5 t3 h24) fun t30 h25 =>
    k2 (some (t2, h25)) fun t31 h26 =>
    k2 (some (t1, h26)) fun t32 h27 =>
    k2 (X.call (.func (.func n_judge_teller_formula) #[] #[]) [t30, t31, t32] h27) fun t33 h28 =>
    k2 (vSlice 1 (fillL (repeatL [(.int .i64 0), (.int .i64 0), (.slice none 0 0)] 1) [(0 * 3, 3, t33)]) h28) fun t34 h29 =>
    k2 ((fillL [(.int .i64 0), (.int .i64 0), (.slice none 0 0)] [(0, 1, (.int .i64 2)), (2, 1, t34)]).map fun c => (Value.agg ⟨c⟩, h29)) fun t35 h30 =>
    k2 (vStore 3 t6 t35 h30) fun _ h31 =>
    (vRes (some 3) t6 h31).bind fun r0 => some (.val (tupleOf [r0]) h31))
      (k2 ((fillL [(.int .i64 0), (.int .i64 0), (.slice none 0 0)] [(0, 1, (.int .i64 3))]).map fun c => (Value.agg ⟨c⟩, h24)) fun t36 h32 =>
    k2 (some (newPtr h32 [(.int .i64 0), (.int .i64 0), (.slice none 0 0)])) fun t9 h33 =>
    k2 (vStore 3 t9 t36 h33) fun _ h34 =>
    k2 (vField 1 t3 h34) fun t37 h35 =>
    k2 (vLoadN 3 t37 h35) fun t38 h36 =>
    k2 (some (t2, h36)) fun t39 h37 =>
    k2 (vField 2 t7 h37) fun t40 h38 =>
    k2 (vLoad1 t40 h38) fun t41 h39 =>
    k2 (X.call (.func (.func n_judge_leads) #[] #[]) [t38, t39, t41] h39) fun t42 h40 =>
    (isFn t42).bind fun fv => k2 (X.call fv [.func (.yield h40.next) #[] #[]] (h40.new (.loop .ready none (setL [p3, p7, p9] [t3, t7, t9]) r_judge_teller_formula_1))) fun _ h41 =>
    rgP h40.next h41 (fun h42 => i_judge_teller_formula_0 X t6 t7 t9 h42) (fun i h42 => bx i 0 (i_judge_teller_formula_0 X t6 t7 t9 h42) (none)) (fun h42 => (vRes (some 3) t6 h42).bind fun r0 => some (.val (tupleOf [r0]) h42))))
def x_judge_teller_formula : Rn → List Value → H → Option Out := T_judge_teller_formula x_judge_teller_formula_0
theorem e_judge_teller_formula : ((fun X args h => shFunc X 3 f_judge_teller_formula args h) : Rn → List Value → H → Option Out) = x_judge_teller_formula := (show ((fun X args h => shFunc X 3 f_judge_teller_formula args h) : Rn → List Value → H → Option Out) = T_judge_teller_formula (fun X t6 t7 t9 h => sh X c_judge_teller_formula_0 (KZ_judge_teller_formula_0 X) (setL [p6, p7, p9] [t6, t7, t9]) h) by kernel_rfl).trans (by rw [e_judge_teller_formula_0]; rfl)
def T_judge_both (X : Rn) (args : List Value) (h : H) : Option Out :=
    uc args fun t0 args => uc args fun t1 args => un args (k2 (some (newPtr h (cellsL t0))) fun t2 h1 =>
    k2 (some (newPtr h1 (cellsL t1))) fun t3 h2 =>
    k2 (some ((.bool false), h2)) fun t4 h3 =>
    k2 (vLoadN 3 t2 h3) fun t5 h4 =>
    k2 (X.call (.func (.func n_judge_Check) #[] #[]) [t5] h4) fun t6 h5 =>
    k2 (vBin .eql .other t6 (.int .i64 0) h5) fun t7 h6 =>
    k2 (some (t7, h6)) fun t8 h7 =>
    k2 (gd t8 true h7 (vLoadN 3 t3 h7)) fun t9 h8 =>
    k2 (gd t8 true h8 (X.call (.func (.func n_judge_Check) #[] #[]) [t9] h8)) fun t10 h9 =>
    k2 (gd t8 true h9 (vBin .eql .other t10 (.int .i64 0) h9)) fun t11 h10 =>
    k2 (vPick t8 t11 (.bool false) h10) fun t12 h11 =>
    k2 (some (t12, h11)) fun t13 h12 =>
    k2 (gd t13 true h12 (vField 1 t2 h12)) fun t14 h13 =>
    k2 (gd t13 true h13 (vLoad1 t14 h13)) fun t15 h14 =>
    k2 (gd t13 true h14 (vField 1 t3 h14)) fun t16 h15 =>
    k2 (gd t13 true h15 (vLoad1 t16 h15)) fun t17 h16 =>
    k2 (gd t13 true h16 (vBin .eql .other t15 t17 h16)) fun t18 h17 =>
    k2 (vPick t13 t18 (.bool false) h17) fun t19 h18 =>
    k2 (some (t19, h18)) fun t4 h19 =>
    some (.val (tupleOf [t4]) h19))
def x_judge_both : Rn → List Value → H → Option Out := T_judge_both
theorem e_judge_both : ((fun X args h => shFunc X 2 f_judge_both args h) : Rn → List Value → H → Option Out) = x_judge_both := by kernel_rfl
def T_judge_alike_0 (X : Rn) (t2 t5 : Value) (h : H) : Option Out :=
    k2 (rdF (fun b => vLoadN 3 t5 b) 0 h [(0, h)]) fun t48 h1 =>
    k2 (X.call (.func (.func n_judge_apart) #[] #[]) [t48] h1) fun t49 h2 =>
    k2 (vField 0 t2 h2) fun t50 h3 =>
    k2 (rdF (fun b => vLoad1 t50 b) 0 h3 [(1, h2), (0, h)]) fun t51 h4 =>
    k2 ((fillL [(.int .i64 0), (.int .i64 0)] [(0, 1, (.int .i64 0)), (1, 1, t51)]).map fun c => (Value.agg ⟨c⟩, h4)) fun t52 h5 =>
    k2 (rdF (fun b => vLookup (.leaves [0, 1]) (.int .i64 0) true t49 t52 b) 1 h5 [(1, h2), (0, h)]) fun t53 h6 =>
    k2 (some (t53, h6)) fun t47 h7 =>
    k2 (vExtract 0 t47 h7) fun t54 h8 =>
    k2 (vExtract 1 t47 h8) fun t55 h9 =>
    k2 (some (t54, h9)) fun t8 h10 =>
    k2 (some (t55, h10)) fun t9 h11 =>
    k2 (some (t9, h11)) fun t56 h12 =>
    k2 (vUn .not t56 h12) fun t57 h13 =>
    k2 (some (t57, h13)) fun t4 h14 =>
    some (.val (tupleOf [t4]) h14)
def x_judge_alike_0 : Rn → Value → Value → H → Option Out := T_judge_alike_0
theorem e_judge_alike_0 : ((fun X t2 t5 h => sh X c_judge_alike_0 (KZ_judge_alike_0 X) (setL [p2, p5] [t2, t5]) h) : Rn → Value → Value → H → Option Out) = x_judge_alike_0 := by kernel_rfl
def T_judge_alike_1 (i_judge_alike_0 : Rn → Value → Value → H → Option Out) (X : Rn) (z_1 : Z) (t2 t5 t22 t23 t24 : Value) (h : H) : Option Out :=
    k2 (vBin .lss .other t24 t23 h) fun t25 h1 =>
    br t25
      (k2 (vIndex 3 t22 t24 h1) fun t26 h2 =>
    k2 (vLoadN 3 t26 h2) fun t27 h3 =>
    k2 (some (newPtr h3 [(.int .i64 0), (.int .i64 0), (.int .i64 0)])) fun t7 h4 =>
    k2 (vStore 3 t7 t27 h4) fun _ h5 =>
    k2 (vField 2 t5 h5) fun t28 h6 =>
    k2 (vLoad1 t28 h6) fun t29 h7 =>
    k2 (vField 0 t7 h7) fun t30 h8 =>
    k2 (vLoad1 t30 h8) fun t31 h9 =>
    k2 (vField 0 t2 h9) fun t32 h10 =>
    k2 (vLoad1 t32 h10) fun t33 h11 =>
    k2 (vBin .add .other t31 t33 h11) fun t34 h12 =>
    k2 (vField 1 t7 h12) fun t35 h13 =>
    k2 (vLoad1 t35 h13) fun t36 h14 =>
    k2 (vField 0 t2 h14) fun t37 h15 =>
    k2 (vLoad1 t37 h15) fun t38 h16 =>
    k2 (vBin .add .other t36 t38 h16) fun t39 h17 =>
    k2 (vField 2 t7 h17) fun t40 h18 =>
    k2 (vLoad1 t40 h18) fun t41 h19 =>
    k2 ((fillL [(.int .i64 0), (.int .i64 0), (.int .i64 0)] [(0, 1, t34), (1, 1, t39), (2, 1, t41)]).map fun c => (Value.agg ⟨c⟩, h19)) fun t42 h20 =>
    k2 (vSlice 1 (fillL (repeatL [(.int .i64 0), (.int .i64 0), (.int .i64 0)] 1) [(0 * 3, 3, t42)]) h20) fun t43 h21 =>
    k2 (bltV h21 (.append 3 24) [t29, t43]) fun t44 h22 =>
    k2 (vField 2 t5 h22) fun t45 h23 =>
    k2 (vStore 1 t45 t44 h23) fun _ h24 =>
    k2 (vBin .add .other t24 (.int .i64 1) h24) fun t46 h25 =>
    k2 (some (t46, h25)) fun t24_26 h27 =>
    z_1 [t2, t5, t22, t23, t24_26] h27)
      (i_judge_alike_0 X t2 t5 h1)
def x_judge_alike_1 : Rn → Z → Value → Value → Value → Value → Value → H → Option Out := T_judge_alike_1 x_judge_alike_0
theorem e_judge_alike_1 : ((fun X z_1 t2 t5 t22 t23 t24 h => sh X c_judge_alike_1 (KZ_judge_alike_1 X z_1) (setL [p2, p5, p22, p23, p24] [t2, t5, t22, t23, t24]) h) : Rn → Z → Value → Value → Value → Value → Value → H → Option Out) = x_judge_alike_1 := (show ((fun X z_1 t2 t5 t22 t23 t24 h => sh X c_judge_alike_1 (KZ_judge_alike_1 X z_1) (setL [p2, p5, p22, p23, p24] [t2, t5, t22, t23, t24]) h) : Rn → Z → Value → Value → Value → Value → Value → H → Option Out) = T_judge_alike_1 (fun X t2 t5 h => sh X c_judge_alike_0 (KZ_judge_alike_0 X) (setL [p2, p5] [t2, t5]) h) by kernel_rfl).trans (by rw [e_judge_alike_0]; rfl)
def T_judge_alike (i_judge_alike_1 : Rn → Z → Value → Value → Value → Value → Value → H → Option Out) (X : Rn) (args : List Value) (h : H) : Option Out :=
    uc args fun t0 args => uc args fun t1 args => un args (k2 (some (newPtr h (cellsL t0))) fun t2 h1 =>
    k2 (some (newPtr h1 (cellsL t1))) fun t3 h2 =>
    k2 (some ((.bool false), h2)) fun t4 h3 =>
    k2 (vField 2 t2 h3) fun t17 h4 =>
    k2 (rdF (fun b => vLoad1 t17 b) 0 h4 [(0, h3)]) fun t18 h5 =>
    k2 (X.call (.func (.func n_slices_Clone_api_JudgeEdge_api_JudgeEdge_) #[] #[]) [t18] h5) fun t19 h6 =>
    k2 (vField 0 t2 h6) fun t10 h7 =>
    k2 (rdF (fun b => vLoad1 t10 b) 0 h7 [(1, h6), (0, h3)]) fun t11 h8 =>
    k2 (vField 0 t3 h8) fun t12 h9 =>
    k2 (rdF (fun b => vLoad1 t12 b) 0 h9 [(1, h6), (0, h3)]) fun t13 h10 =>
    k2 (vBin .add .other t11 t13 h10) fun t14 h11 =>
    k2 (vField 1 t2 h11) fun t15 h12 =>
    k2 (rdF (fun b => vLoad1 t15 b) 0 h12 [(1, h6), (0, h3)]) fun t16 h13 =>
    k2 ((fillL [(.int .i64 0), (.int .i64 0), (.slice none 0 0)] [(0, 1, t14), (1, 1, t16), (2, 1, t19)]).map fun c => (Value.agg ⟨c⟩, h13)) fun t20 h14 =>
    k2 (some (newPtr h14 [(.int .i64 0), (.int .i64 0), (.slice none 0 0)])) fun t5 h15 =>
    k2 (vStore 3 t5 t20 h15) fun _ h16 =>
    k2 (vField 2 t3 h16) fun t21 h17 =>
    k2 (vLoad1 t21 h17) fun t22 h18 =>
    k2 (bltV h18 .len [t22]) fun t23 h19 =>
    k2 (some ((.int .i64 0), h19)) fun t24 h20 =>
    X.loop [p2, p5, p22, p23, p24] c_judge_alike_1 (kBlk 0 (kSeq X c_judge_alike_0 [p2, p5] (KZ_judge_alike_0 X))) (fun z_1 vs h => uc vs fun t2 vs => uc vs fun t5 vs => uc vs fun t22 vs => uc vs fun t23 vs => uc vs fun t24 vs => un vs (i_judge_alike_1 X z_1 t2 t5 t22 t23 t24 h)) [t2, t5, t22, t23, t24] h20)
def x_judge_alike : Rn → List Value → H → Option Out := T_judge_alike x_judge_alike_1
theorem e_judge_alike : ((fun X args h => shFunc X 2 f_judge_alike args h) : Rn → List Value → H → Option Out) = x_judge_alike := (show ((fun X args h => shFunc X 2 f_judge_alike args h) : Rn → List Value → H → Option Out) = T_judge_alike (fun X z_1 t2 t5 t22 t23 t24 h => sh X c_judge_alike_1 (KZ_judge_alike_1 X z_1) (setL [p2, p5, p22, p23, p24] [t2, t5, t22, t23, t24]) h) by kernel_rfl).trans (by rw [e_judge_alike_1]; rfl)
def T_judge_classes_0 (X : Rn) (t4 : Value) (h : H) : Option Out :=
    k2 (some (t4, h)) fun t50 h1 =>
    k2 (some (t50, h1)) fun t2 h2 =>
    some (.val (tupleOf [t2]) h2)
def x_judge_classes_0 : Rn → Value → H → Option Out := T_judge_classes_0
theorem e_judge_classes_0 : ((fun X t4 h => sh X c_judge_classes_0 (KZ_judge_classes_0 X) (setL [p4] [t4]) h) : Rn → Value → H → Option Out) = x_judge_classes_0 := by kernel_rfl
def T_judge_classes_2 (X : Rn) (z_1 : Z) (t3 t4 t5 t14 t15 : Value) (h : H) : Option Out :=
    k2 (vBin .add .other t15 (.int .i64 1) h) fun t49 h1 =>
    k2 (some (t49, h1)) fun t15_2 h3 =>
    z_1 [t3, t4, t5, t14, t15_2] h3
def x_judge_classes_2 : Rn → Z → Value → Value → Value → Value → Value → H → Option Out := T_judge_classes_2
theorem e_judge_classes_2 : ((fun X z_1 t3 t4 t5 t14 t15 h => sh X c_judge_classes_2 (KZ_judge_classes_2 X z_1) (setL [p3, p4, p5, p14, p15] [t3, t4, t5, t14, t15]) h) : Rn → Z → Value → Value → Value → Value → Value → H → Option Out) = x_judge_classes_2 := by kernel_rfl
def T_judge_classes_3 (i_judge_classes_2 : Rn → Z → Value → Value → Value → Value → Value → H → Option Out) (X : Rn) (z_1 : Z) (t3 t4 t5 t6 t14 t15 : Value) (h : H) : Option Out :=
    k2 (some (t4, h)) fun t40 h1 =>
    k2 (some (t5, h1)) fun t41 h2 =>
    k2 (bltV h2 .len [t41]) fun t42 h3 =>
    k2 (vSlice 1 (fillL (repeatL [(.int .i64 0)] 1) [(0 * 1, 1, t42)]) h3) fun t43 h4 =>
    k2 (bltV h4 (.append 1 8) [t40, t43]) fun t44 h5 =>
    k2 (some (t44, h5)) fun t4_6 h7 =>
    k2 (some (t5, h7)) fun t45 h8 =>
    k2 (some (t6, h8)) fun t46 h9 =>
    k2 (vSlice 1 (fillL (repeatL [(.int .i64 0)] 1) [(0 * 1, 1, t46)]) h9) fun t47 h10 =>
    k2 (bltV h10 (.append 1 8) [t45, t47]) fun t48 h11 =>
    k2 (some (t48, h11)) fun t5_12 h13 =>
    i_judge_classes_2 X z_1 t3 t4_6 t5_12 t14 t15 h13
def x_judge_classes_3 : Rn → Z → Value → Value → Value → Value → Value → Value → H → Option Out := T_judge_classes_3 x_judge_classes_2
theorem e_judge_classes_3 : ((fun X z_1 t3 t4 t5 t6 t14 t15 h => sh X c_judge_classes_3 (KZ_judge_classes_3 X z_1) (setL [p3, p4, p5, p6, p14, p15] [t3, t4, t5, t6, t14, t15]) h) : Rn → Z → Value → Value → Value → Value → Value → Value → H → Option Out) = x_judge_classes_3 := (show ((fun X z_1 t3 t4 t5 t6 t14 t15 h => sh X c_judge_classes_3 (KZ_judge_classes_3 X z_1) (setL [p3, p4, p5, p6, p14, p15] [t3, t4, t5, t6, t14, t15]) h) : Rn → Z → Value → Value → Value → Value → Value → Value → H → Option Out) = T_judge_classes_3 (fun X z_1 t3 t4 t5 t14 t15 h => sh X c_judge_classes_2 (KZ_judge_classes_2 X z_1) (setL [p3, p4, p5, p14, p15] [t3, t4, t5, t14, t15]) h) by kernel_rfl).trans (by rw [e_judge_classes_2]; rfl)
def T_judge_classes_4 (i_judge_classes_2 : Rn → Z → Value → Value → Value → Value → Value → H → Option Out) (i_judge_classes_3 : Rn → Z → Value → Value → Value → Value → Value → Value → H → Option Out) (X : Rn) (z_1 z_4 : Z) (t3 t4 t5 t6 t14 t15 t18 t19 t20 : Value) (h : H) : Option Out :=
    k2 (vBin .lss .other t20 t19 h) fun t21 h1 =>
    br t21
      (k2 (some (t20, h1)) fun t22 h2 =>
    k2 (vIndex 1 t18 t20 h2) fun t23 h3 =>
    k2 (vLoad1 t23 h3) fun t24 h4 =>
    k2 (some (t22, h4)) fun t7 h5 =>
    k2 (some (t24, h5)) fun t8 h6 =>
    k2 (some (t3, h6)) fun t26 h7 =>
    k2 (some (t8, h7)) fun t27 h8 =>
    k2 (some (t6, h8)) fun t28 h9 =>
    k2 ((fillL [(.int .i64 0), (.int .i64 0)] [(0, 1, t27), (1, 1, t28)]).map fun c => (Value.agg ⟨c⟩, h9)) fun t29 h10 =>
    k2 (vLookup (.leaves [0, 1]) (.int .i64 0) true t26 t29 h10) fun t30 h11 =>
    k2 (some (t30, h11)) fun t25 h12 =>
    k2 (vExtract 0 t25 h12) fun t31 h13 =>
    k2 (vExtract 1 t25 h13) fun t32 h14 =>
    k2 (some (t31, h14)) fun t9 h15 =>
    k2 (some (t32, h15)) fun t10 h16 =>
    k2 (some (t10, h16)) fun t33 h17 =>
    k2 (vUn .not t33 h17) fun t34 h18 =>
    br t34
      (k2 (some (t4, h18)) fun t35 h19 =>
    k2 (some (t7, h19)) fun t36 h20 =>
    k2 (vSlice 1 (fillL (repeatL [(.int .i64 0)] 1) [(0 * 1, 1, t36)]) h20) fun t37 h21 =>
    k2 (bltV h21 (.append 1 8) [t35, t37]) fun t38 h22 =>
    k2 (some (t38, h22)) fun t4_23 h24 =>
    i_judge_classes_2 X z_1 t3 t4_23 t5 t14 t15 h24)
      (k2 (vBin .add .other t20 (.int .i64 1) h18) fun t39 h25 =>
    k2 (some (t39, h25)) fun t20_26 h27 =>
    z_4 [t3, t4, t5, t6, t14, t15, t18, t19, t20_26] h27))
      (i_judge_classes_3 X z_1 t3 t4 t5 t6 t14 t15 h1)
def x_judge_classes_4 : Rn → Z → Z → Value → Value → Value → Value → Value → Value → Value → Value → Value → H → Option Out := T_judge_classes_4 x_judge_classes_2 x_judge_classes_3
theorem e_judge_classes_4 : ((fun X z_1 z_4 t3 t4 t5 t6 t14 t15 t18 t19 t20 h => sh X c_judge_classes_4 (KZ_judge_classes_4 X z_1 z_4) (setL [p3, p4, p5, p6, p14, p15, p18, p19, p20] [t3, t4, t5, t6, t14, t15, t18, t19, t20]) h) : Rn → Z → Z → Value → Value → Value → Value → Value → Value → Value → Value → Value → H → Option Out) = x_judge_classes_4 := (show ((fun X z_1 z_4 t3 t4 t5 t6 t14 t15 t18 t19 t20 h => sh X c_judge_classes_4 (KZ_judge_classes_4 X z_1 z_4) (setL [p3, p4, p5, p6, p14, p15, p18, p19, p20] [t3, t4, t5, t6, t14, t15, t18, t19, t20]) h) : Rn → Z → Z → Value → Value → Value → Value → Value → Value → Value → Value → Value → H → Option Out) = T_judge_classes_4 (fun X z_1 t3 t4 t5 t14 t15 h => sh X c_judge_classes_2 (KZ_judge_classes_2 X z_1) (setL [p3, p4, p5, p14, p15] [t3, t4, t5, t14, t15]) h) (fun X z_1 t3 t4 t5 t6 t14 t15 h => sh X c_judge_classes_3 (KZ_judge_classes_3 X z_1) (setL [p3, p4, p5, p6, p14, p15] [t3, t4, t5, t6, t14, t15]) h) by kernel_rfl).trans (by rw [e_judge_classes_2, e_judge_classes_3]; rfl)
def T_judge_classes_1 (i_judge_classes_4 : Rn → Z → Z → Value → Value → Value → Value → Value → Value → Value → Value → Value → H → Option Out) (i_judge_classes_0 : Rn → Value → H → Option Out) (X : Rn) (z_1 : Z) (t3 t4 t5 t14 t15 : Value) (h : H) : Option Out :=
    k2 (vBin .lss .other t15 t14 h) fun t16 h1 =>
    br t16
      (k2 (some (t15, h1)) fun t17 h2 =>
    k2 (some (t17, h2)) fun t6 h3 =>
    k2 (some (t5, h3)) fun t18 h4 =>
    k2 (bltV h4 .len [t18]) fun t19 h5 =>
    k2 (some ((.int .i64 0), h5)) fun t20 h6 =>
    X.loop [p3, p4, p5, p6, p14, p15, p18, p19, p20] c_judge_classes_4 (kBlk 2 (kSeq X c_judge_classes_3 [p3, p4, p5, p6, p14, p15] (KZ_judge_classes_3 X z_1))) (fun z_4 vs h => uc vs fun t3 vs => uc vs fun t4 vs => uc vs fun t5 vs => uc vs fun t6 vs => uc vs fun t14 vs => uc vs fun t15 vs => uc vs fun t18 vs => uc vs fun t19 vs => uc vs fun t20 vs => un vs (i_judge_classes_4 X z_1 z_4 t3 t4 t5 t6 t14 t15 t18 t19 t20 h)) [t3, t4, t5, t6, t14, t15, t18, t19, t20] h6)
      (i_judge_classes_0 X t4 h1)
def x_judge_classes_1 : Rn → Z → Value → Value → Value → Value → Value → H → Option Out := T_judge_classes_1 x_judge_classes_4 x_judge_classes_0
theorem e_judge_classes_1 : ((fun X z_1 t3 t4 t5 t14 t15 h => sh X c_judge_classes_1 (KZ_judge_classes_1 X z_1) (setL [p3, p4, p5, p14, p15] [t3, t4, t5, t14, t15]) h) : Rn → Z → Value → Value → Value → Value → Value → H → Option Out) = x_judge_classes_1 := (show ((fun X z_1 t3 t4 t5 t14 t15 h => sh X c_judge_classes_1 (KZ_judge_classes_1 X z_1) (setL [p3, p4, p5, p14, p15] [t3, t4, t5, t14, t15]) h) : Rn → Z → Value → Value → Value → Value → Value → H → Option Out) = T_judge_classes_1 (fun X z_1 z_4 t3 t4 t5 t6 t14 t15 t18 t19 t20 h => sh X c_judge_classes_4 (KZ_judge_classes_4 X z_1 z_4) (setL [p3, p4, p5, p6, p14, p15, p18, p19, p20] [t3, t4, t5, t6, t14, t15, t18, t19, t20]) h) (fun X t4 h => sh X c_judge_classes_0 (KZ_judge_classes_0 X) (setL [p4] [t4]) h) by kernel_rfl).trans (by rw [e_judge_classes_4, e_judge_classes_0]; rfl)
def T_judge_classes (i_judge_classes_1 : Rn → Z → Value → Value → Value → Value → Value → H → Option Out) (X : Rn) (args : List Value) (h : H) : Option Out :=
    uc args fun t0 args => un args (k2 (some (newPtr h (cellsL t0))) fun t1 h1 =>
    k2 (some ((.slice none 0 0), h1)) fun t2 h2 =>
    k2 (vLoadN 3 t1 h2) fun t11 h3 =>
    k2 (X.call (.func (.func n_judge_apart) #[] #[]) [t11] h3) fun t12 h4 =>
    k2 (some (t12, h4)) fun t3 h5 =>
    k2 (some ((.slice none 0 0), h5)) fun t4 h6 =>
    k2 (some ((.slice none 0 0), h6)) fun t5 h7 =>
    k2 (vField 0 t1 h7) fun t13 h8 =>
    k2 (vLoad1 t13 h8) fun t14 h9 =>
    k2 (some ((.int .i64 0), h9)) fun t15 h10 =>
    X.loop [p3, p4, p5, p14, p15] c_judge_classes_1 (kBlk 0 (kSeq X c_judge_classes_0 [p4] (KZ_judge_classes_0 X))) (fun z_1 vs h => uc vs fun t3 vs => uc vs fun t4 vs => uc vs fun t5 vs => uc vs fun t14 vs => uc vs fun t15 vs => un vs (i_judge_classes_1 X z_1 t3 t4 t5 t14 t15 h)) [t3, t4, t5, t14, t15] h10)
def x_judge_classes : Rn → List Value → H → Option Out := T_judge_classes x_judge_classes_1
theorem e_judge_classes : ((fun X args h => shFunc X 1 f_judge_classes args h) : Rn → List Value → H → Option Out) = x_judge_classes := (show ((fun X args h => shFunc X 1 f_judge_classes args h) : Rn → List Value → H → Option Out) = T_judge_classes (fun X z_1 t3 t4 t5 t14 t15 h => sh X c_judge_classes_1 (KZ_judge_classes_1 X z_1) (setL [p3, p4, p5, p14, p15] [t3, t4, t5, t14, t15]) h) by kernel_rfl).trans (by rw [e_judge_classes_1]; rfl)
def T_judge_steps (X : Rn) (args : List Value) (h : H) : Option Out :=
    uc args fun t0 args => uc args fun t1 args => un args (k2 (some (newPtr h (cellsL t0))) fun t2 h1 =>
    k2 (some (newPtr h1 (cellsL t1))) fun t3 h2 =>
    k2 (some (.nilFunc, h2)) fun t4 h3 =>
    k2 (some (.func (.func n_judge_steps_1) ⟨[]⟩ ⟨[t2, t3]⟩, h3)) fun t5 h4 =>
    k2 (some (t5, h4)) fun t4 h5 =>
    some (.val (tupleOf [t4]) h5))
def x_judge_steps : Rn → List Value → H → Option Out := T_judge_steps
theorem e_judge_steps : ((fun X args h => shFunc X 2 f_judge_steps args h) : Rn → List Value → H → Option Out) = x_judge_steps := by kernel_rfl
def T_slices_Contains_int_int_ (X : Rn) (args : List Value) (h : H) : Option Out :=
    uc args fun t0 args => uc args fun t1 args => un args (k2 (some ((.bool false), h)) fun t4 h1 =>
    k2 (some (t0, h1)) fun t5 h2 =>
    k2 (some (t1, h2)) fun t6 h3 =>
    k2 (X.call (.func (.func n_slices_Index_int_int_) #[] #[]) [t5, t6] h3) fun t7 h4 =>
    k2 (vBin .geq .other t7 (.int .i64 0) h4) fun t8 h5 =>
    k2 (some (t8, h5)) fun t4 h6 =>
    some (.val (tupleOf [t4]) h6))
def x_slices_Contains_int_int_ : Rn → List Value → H → Option Out := T_slices_Contains_int_int_
theorem e_slices_Contains_int_int_ : ((fun X args h => shFunc X 2 f_slices_Contains_int_int_ args h) : Rn → List Value → H → Option Out) = x_slices_Contains_int_int_ := by kernel_rfl
def T_cmp_Compare_int_ (X : Rn) (args : List Value) (h : H) : Option Out :=
    uc args fun t0 args => uc args fun t1 args => un args (k2 (some ((.int .i64 0), h)) fun t4 h1 =>
    k2 (some (t0, h1)) fun t7 h2 =>
    k2 (X.call (.func (.func n_cmp_isNaN_int_) #[] #[]) [t7] h2) fun t8 h3 =>
    k2 (some (t8, h3)) fun t5 h4 =>
    k2 (some (t1, h4)) fun t9 h5 =>
    k2 (X.call (.func (.func n_cmp_isNaN_int_) #[] #[]) [t9] h5) fun t10 h6 =>
    k2 (some (t10, h6)) fun t6 h7 =>
    k2 (some (t5, h7)) fun t11 h8 =>
    br t11
      (k2 (some (t6, h8)) fun t12 h9 =>
    br t12
      (k2 (some ((.int .i64 0), h9)) fun t4 h10 =>
    some (.val (tupleOf [t4]) h10))
      (k2 (some ((.int .i64 (-1)), h9)) fun t4 h11 =>
    some (.val (tupleOf [t4]) h11)))
      (k2 (some (t6, h8)) fun t13 h12 =>
    br t13
      (k2 (some ((.int .i64 1), h12)) fun t4 h13 =>
    some (.val (tupleOf [t4]) h13))
      (k2 (some (t0, h12)) fun t14 h14 =>
    k2 (some (t1, h14)) fun t15 h15 =>
    k2 (vBin .lss .other t14 t15 h15) fun t16 h16 =>
    br t16
      (k2 (some ((.int .i64 (-1)), h16)) fun t4 h17 =>
    some (.val (tupleOf [t4]) h17))
      (k2 (some (t0, h16)) fun t17 h18 =>
    k2 (some (t1, h18)) fun t18 h19 =>
    k2 (vBin .gtr .other t17 t18 h19) fun t19 h20 =>
    br t19
      (k2 (some ((.int .i64 1), h20)) fun t4 h21 =>
    some (.val (tupleOf [t4]) h21))
      (k2 (some ((.int .i64 0), h20)) fun t4 h22 =>
    some (.val (tupleOf [t4]) h22))))))
def x_cmp_Compare_int_ : Rn → List Value → H → Option Out := T_cmp_Compare_int_
theorem e_cmp_Compare_int_ : ((fun X args h => shFunc X 2 f_cmp_Compare_int_ args h) : Rn → List Value → H → Option Out) = x_cmp_Compare_int_ := by kernel_rfl
def T_judge_silent_0 (X : Rn) (t5 : Value) (h : H) : Option Out :=
    k2 (vLoad1 t5 h) fun t31 h1 =>
    k2 (some (t31, h1)) fun t4 h2 =>
    some (.val (tupleOf [t4]) h2)
def x_judge_silent_0 : Rn → Value → H → Option Out := T_judge_silent_0
theorem e_judge_silent_0 : ((fun X t5 h => sh X c_judge_silent_0 (KZ_judge_silent_0 X) (setL [p5] [t5]) h) : Rn → Value → H → Option Out) = x_judge_silent_0 := by kernel_rfl
def T_judge_silent_2 (X : Rn) (z_1 : Z) (t2 t4 t5 t6 : Value) (h : H) : Option Out :=
    k2 (some (t6, h)) fun t14 h1 =>
    k2 (vBin .add .other t14 (.int .i64 1) h1) fun t15 h2 =>
    k2 (some (t15, h2)) fun t6_3 h4 =>
    z_1 [t2, t4, t5, t6_3] h4
def x_judge_silent_2 : Rn → Z → Value → Value → Value → Value → H → Option Out := T_judge_silent_2
theorem e_judge_silent_2 : ((fun X z_1 t2 t4 t5 t6 h => sh X c_judge_silent_2 (KZ_judge_silent_2 X z_1) (setL [p2, p4, p5, p6] [t2, t4, t5, t6]) h) : Rn → Z → Value → Value → Value → Value → H → Option Out) = x_judge_silent_2 := by kernel_rfl
def T_judge_silent_4 (X : Rn) (l : Nat) (t5 t7 t22 : Value) (h : H) : Option Out :=
    k2 (vLoad1 t5 h) fun t23 h1 =>
    k2 (some (t7, h1)) fun t24 h2 =>
    k2 (X.call (.func (.func n_slices_Contains_int_int_) #[] #[]) [t23, t24] h2) fun t25 h3 =>
    k2 (vUn .not t25 h3) fun t26 h4 =>
    br t26
      (k2 (vLoad1 t5 h4) fun t27 h5 =>
    k2 (some (t7, h5)) fun t28 h6 =>
    k2 (vSlice 1 (fillL (repeatL [(.int .i64 0)] 1) [(0 * 1, 1, t28)]) h6) fun t29 h7 =>
    k2 (bltV h7 (.append 1 8) [t27, t29]) fun t30 h8 =>
    k2 (vStore 1 t5 t30 h8) fun _ h9 =>
    fin l none h9)
      (fin l none h4)
def x_judge_silent_4 : Rn → Nat → Value → Value → Value → H → Option Out := T_judge_silent_4
theorem e_judge_silent_4 : ((fun X l t5 t7 t22 h => sh X c_judge_silent_4 (KZ_judge_silent_4 X l) (setL [p5, p7, p22] [t5, t7, t22]) h) : Rn → Nat → Value → Value → Value → H → Option Out) = x_judge_silent_4 := by kernel_rfl
def T_judge_silent_3 (i_judge_silent_4 : Rn → Nat → Value → Value → Value → H → Option Out) (X : Rn) (l : Nat) (args : List Value) (sl : Slots) (h : H) : Option Out :=
    (sl.get p5).bind fun t5 => uc args fun t22 args => un args (k2 (some (t22, h)) fun t7 h1 =>
    busyK l h1 fun h => i_judge_silent_4 X l t5 t7 t22 h)
def x_judge_silent_3 : Rn → Nat → List Value → Slots → H → Option Out := T_judge_silent_3 x_judge_silent_4
theorem e_judge_silent_3 : ((fun X l args sl h => shRound X r_judge_silent_3 l args sl h) : Rn → Nat → List Value → Slots → H → Option Out) = x_judge_silent_3 := (show ((fun X l args sl h => shRound X r_judge_silent_3 l args sl h) : Rn → Nat → List Value → Slots → H → Option Out) = T_judge_silent_3 (fun X l t5 t7 t22 h => sh X c_judge_silent_4 (KZ_judge_silent_4 X l) (setL [p5, p7, p22] [t5, t7, t22]) h) by kernel_rfl).trans (by rw [e_judge_silent_4]; rfl)
def T_judge_silent_1 (i_judge_silent_2 : Rn → Z → Value → Value → Value → Value → H → Option Out) (i_judge_silent_0 : Rn → Value → H → Option Out) (X : Rn) (z_1 : Z) (t2 t4 t5 t6 : Value) (h : H) : Option Out :=
    k2 (some (t6, h)) fun t10 h1 =>
    k2 (vLoad1 t5 h1) fun t11 h2 =>
    k2 (bltV h2 .len [t11]) fun t12 h3 =>
    k2 (vBin .lss .other t10 t12 h3) fun t13 h4 =>
    br t13
      (k2 (rdF (fun b => vLoadN 3 t2 b) 0 h4 [(0, h4)]) fun t16 h5 =>
    k2 (rdF (fun b => vLoad1 t5 b) 0 h5 [(0, h4)]) fun t17 h6 =>
    k2 (some (t6, h6)) fun t18 h7 =>
    k2 (vIndex 1 t17 t18 h7) fun t19 h8 =>
    k2 (rdF (fun b => vLoad1 t19 b) 0 h8 [(0, h4)]) fun t20 h9 =>
    k2 (X.call (.func (.func n_judge_leads) #[] #[]) [t16, t20, (.int .i64 0)] h9) fun t21 h10 =>
    (isFn t21).bind fun fv => k2 (X.call fv [.func (.yield h10.next) #[] #[]] (h10.new (.loop .ready none (setL [p5] [t5]) r_judge_silent_3))) fun _ h11 =>
    rgP h10.next h11 (fun h12 => i_judge_silent_2 X z_1 t2 t4 t5 t6 h12) (fun i h12 => bx i 2 (i_judge_silent_2 X z_1 t2 t4 t5 t6 h12) (bx i 1 (i_judge_silent_2 X z_1 t2 t4 t5 t6 h12) (bx i 0 (i_judge_silent_0 X t5 h12) (none)))) (fun h12 => some (.val (tupleOf [t4]) h12)))
      (i_judge_silent_0 X t5 h4)
def x_judge_silent_1 : Rn → Z → Value → Value → Value → Value → H → Option Out := T_judge_silent_1 x_judge_silent_2 x_judge_silent_0
theorem e_judge_silent_1 : ((fun X z_1 t2 t4 t5 t6 h => sh X c_judge_silent_1 (KZ_judge_silent_1 X z_1) (setL [p2, p4, p5, p6] [t2, t4, t5, t6]) h) : Rn → Z → Value → Value → Value → Value → H → Option Out) = x_judge_silent_1 := (show ((fun X z_1 t2 t4 t5 t6 h => sh X c_judge_silent_1 (KZ_judge_silent_1 X z_1) (setL [p2, p4, p5, p6] [t2, t4, t5, t6]) h) : Rn → Z → Value → Value → Value → Value → H → Option Out) = T_judge_silent_1 (fun X z_1 t2 t4 t5 t6 h => sh X c_judge_silent_2 (KZ_judge_silent_2 X z_1) (setL [p2, p4, p5, p6] [t2, t4, t5, t6]) h) (fun X t5 h => sh X c_judge_silent_0 (KZ_judge_silent_0 X) (setL [p5] [t5]) h) by kernel_rfl).trans (by rw [e_judge_silent_2, e_judge_silent_0]; rfl)
def T_judge_silent (i_judge_silent_1 : Rn → Z → Value → Value → Value → Value → H → Option Out) (X : Rn) (args : List Value) (h : H) : Option Out :=
    uc args fun t0 args => uc args fun t1 args => un args (k2 (some (newPtr h (cellsL t0))) fun t2 h1 =>
    k2 (some ((.slice none 0 0), h1)) fun t4 h2 =>
    k2 (some (t1, h2)) fun t8 h3 =>
    k2 (vSlice 1 (fillL (repeatL [(.int .i64 0)] 1) [(0 * 1, 1, t8)]) h3) fun t9 h4 =>
    k2 (some (newPtr h4 [(.slice none 0 0)])) fun t5 h5 =>
    k2 (vStore 1 t5 t9 h5) fun _ h6 =>
    k2 (some ((.int .i64 0), h6)) fun t6 h7 =>
    X.loop [p2, p4, p5, p6] c_judge_silent_1 (kBlk 0 (kSeq X c_judge_silent_0 [p5] (KZ_judge_silent_0 X))) (fun z_1 vs h => uc vs fun t2 vs => uc vs fun t4 vs => uc vs fun t5 vs => uc vs fun t6 vs => un vs (i_judge_silent_1 X z_1 t2 t4 t5 t6 h)) [t2, t4, t5, t6] h7)
def x_judge_silent : Rn → List Value → H → Option Out := T_judge_silent x_judge_silent_1
theorem e_judge_silent : ((fun X args h => shFunc X 2 f_judge_silent args h) : Rn → List Value → H → Option Out) = x_judge_silent := (show ((fun X args h => shFunc X 2 f_judge_silent args h) : Rn → List Value → H → Option Out) = T_judge_silent (fun X z_1 t2 t4 t5 t6 h => sh X c_judge_silent_1 (KZ_judge_silent_1 X z_1) (setL [p2, p4, p5, p6] [t2, t4, t5, t6]) h) by kernel_rfl).trans (by rw [e_judge_silent_1]; rfl)
def T_cmp_Or_int__0 (X : Rn) (t3 : Value) (h : H) : Option Out :=
    k2 (some (t3, h)) fun t17 h1 =>
    k2 (some (t17, h1)) fun t2 h2 =>
    some (.val (tupleOf [t2]) h2)
def x_cmp_Or_int__0 : Rn → Value → H → Option Out := T_cmp_Or_int__0
theorem e_cmp_Or_int__0 : ((fun X t3 h => sh X c_cmp_Or_int__0 (KZ_cmp_Or_int__0 X) (setL [p3] [t3]) h) : Rn → Value → H → Option Out) = x_cmp_Or_int__0 := by kernel_rfl
def T_cmp_Or_int__1 (i_cmp_Or_int__0 : Rn → Value → H → Option Out) (X : Rn) (z_1 : Z) (t3 t6 t7 t8 : Value) (h : H) : Option Out :=
    k2 (vBin .lss .other t8 t7 h) fun t9 h1 =>
    br t9
      (k2 (vIndex 1 t6 t8 h1) fun t10 h2 =>
    k2 (vLoad1 t10 h2) fun t11 h3 =>
    k2 (some (t11, h3)) fun t5 h4 =>
    k2 (some (t5, h4)) fun t12 h5 =>
    k2 (some (t3, h5)) fun t13 h6 =>
    k2 (vBin .neq .other t12 t13 h6) fun t14 h7 =>
    br t14
      (k2 (some (t5, h7)) fun t15 h8 =>
    k2 (some (t15, h8)) fun t2 h9 =>
    some (.val (tupleOf [t2]) h9))
      (k2 (vBin .add .other t8 (.int .i64 1) h7) fun t16 h10 =>
    k2 (some (t16, h10)) fun t8_11 h12 =>
    z_1 [t3, t6, t7, t8_11] h12))
      (i_cmp_Or_int__0 X t3 h1)
def x_cmp_Or_int__1 : Rn → Z → Value → Value → Value → Value → H → Option Out := T_cmp_Or_int__1 x_cmp_Or_int__0
theorem e_cmp_Or_int__1 : ((fun X z_1 t3 t6 t7 t8 h => sh X c_cmp_Or_int__1 (KZ_cmp_Or_int__1 X z_1) (setL [p3, p6, p7, p8] [t3, t6, t7, t8]) h) : Rn → Z → Value → Value → Value → Value → H → Option Out) = x_cmp_Or_int__1 := (show ((fun X z_1 t3 t6 t7 t8 h => sh X c_cmp_Or_int__1 (KZ_cmp_Or_int__1 X z_1) (setL [p3, p6, p7, p8] [t3, t6, t7, t8]) h) : Rn → Z → Value → Value → Value → Value → H → Option Out) = T_cmp_Or_int__1 (fun X t3 h => sh X c_cmp_Or_int__0 (KZ_cmp_Or_int__0 X) (setL [p3] [t3]) h) by kernel_rfl).trans (by rw [e_cmp_Or_int__0]; rfl)
def T_cmp_Or_int_ (i_cmp_Or_int__1 : Rn → Z → Value → Value → Value → Value → H → Option Out) (X : Rn) (args : List Value) (h : H) : Option Out :=
    uc args fun t0 args => un args (k2 (some ((.int .i64 0), h)) fun t2 h1 =>
    k2 (some ((.int .i64 0), h1)) fun t3 h2 =>
    k2 (some (t0, h2)) fun t6 h3 =>
    k2 (bltV h3 .len [t6]) fun t7 h4 =>
    k2 (some ((.int .i64 0), h4)) fun t8 h5 =>
    X.loop [p3, p6, p7, p8] c_cmp_Or_int__1 (kBlk 0 (kSeq X c_cmp_Or_int__0 [p3] (KZ_cmp_Or_int__0 X))) (fun z_1 vs h => uc vs fun t3 vs => uc vs fun t6 vs => uc vs fun t7 vs => uc vs fun t8 vs => un vs (i_cmp_Or_int__1 X z_1 t3 t6 t7 t8 h)) [t3, t6, t7, t8] h5)
def x_cmp_Or_int_ : Rn → List Value → H → Option Out := T_cmp_Or_int_ x_cmp_Or_int__1
theorem e_cmp_Or_int_ : ((fun X args h => shFunc X 1 f_cmp_Or_int_ args h) : Rn → List Value → H → Option Out) = x_cmp_Or_int_ := (show ((fun X args h => shFunc X 1 f_cmp_Or_int_ args h) : Rn → List Value → H → Option Out) = T_cmp_Or_int_ (fun X z_1 t3 t6 t7 t8 h => sh X c_cmp_Or_int__1 (KZ_cmp_Or_int__1 X z_1) (setL [p3, p6, p7, p8] [t3, t6, t7, t8]) h) by kernel_rfl).trans (by rw [e_cmp_Or_int__1]; rfl)
def T_judge_rounds_first_0 (X : Rn) (t10 t11 : Value) (h : H) : Option Out :=
    k2 ((fillL [(.int .i64 0), (.int .i64 0), (.int .i64 0)] []).map fun c => (Value.agg ⟨c⟩, h)) fun t24 h1 =>
    k2 (vStore 3 t10 t24 h1) fun _ h2 =>
    k2 (vStore 1 t11 (.bool false) h2) fun _ h3 =>
    (vRes (some 3) t10 h3).bind fun r0 => (vRes none t11 h3).bind fun r1 => some (.val (tupleOf [r0, r1]) h3)
def x_judge_rounds_first_0 : Rn → Value → Value → H → Option Out := T_judge_rounds_first_0
theorem e_judge_rounds_first_0 : ((fun X t10 t11 h => sh X c_judge_rounds_first_0 (KZ_judge_rounds_first_0 X) (setL [p10, p11] [t10, t11]) h) : Rn → Value → Value → H → Option Out) = x_judge_rounds_first_0 := by kernel_rfl
def T_judge_rounds_first_2 (X : Rn) (l : Nat) (t5 t6 t8 t9 t10 t11 t12 t16 : Value) (h : H) : Option Out :=
    k2 (vLoad1 t5 h) fun t17 h1 =>
    k2 (vLoadN 3 t6 h1) fun t18 h2 =>
    k2 (vLoadN 3 t12 h2) fun t19 h3 =>
    k2 (vLoad1 t8 h3) fun t20 h4 =>
    k2 (vLoad1 t9 h4) fun t21 h5 =>
    k2 (X.call (.func (.func n_judge_rounds_told) #[] #[]) [t17, t18, t19, t20, t21] h5) fun t22 h6 =>
    br t22
      (k2 (vLoadN 3 t12 h6) fun t23 h7 =>
    k2 (vStore 3 t10 t23 h7) fun _ h8 =>
    k2 (vStore 1 t11 (.bool true) h8) fun _ h9 =>
    fin l (some .ret) h9)
      (fin l none h6)
def x_judge_rounds_first_2 : Rn → Nat → Value → Value → Value → Value → Value → Value → Value → Value → H → Option Out := T_judge_rounds_first_2
theorem e_judge_rounds_first_2 : ((fun X l t5 t6 t8 t9 t10 t11 t12 t16 h => sh X c_judge_rounds_first_2 (KZ_judge_rounds_first_2 X l) (setL [p5, p6, p8, p9, p10, p11, p12, p16] [t5, t6, t8, t9, t10, t11, t12, t16]) h) : Rn → Nat → Value → Value → Value → Value → Value → Value → Value → Value → H → Option Out) = x_judge_rounds_first_2 := by kernel_rfl
def T_judge_rounds_first_1 (i_judge_rounds_first_2 : Rn → Nat → Value → Value → Value → Value → Value → Value → Value → Value → H → Option Out) (X : Rn) (l : Nat) (args : List Value) (sl : Slots) (h : H) : Option Out :=
    (sl.get p5).bind fun t5 => (sl.get p6).bind fun t6 => (sl.get p8).bind fun t8 => (sl.get p9).bind fun t9 => (sl.get p10).bind fun t10 => (sl.get p11).bind fun t11 => uc args fun t16 args => un args (k2 (some (newPtr h [(.int .i64 0), (.int .i64 0), (.int .i64 0)])) fun t12 h1 =>
    k2 (vStore 3 t12 t16 h1) fun _ h2 =>
    busyK l h2 fun h => i_judge_rounds_first_2 X l t5 t6 t8 t9 t10 t11 t12 t16 h)
def x_judge_rounds_first_1 : Rn → Nat → List Value → Slots → H → Option Out := T_judge_rounds_first_1 x_judge_rounds_first_2
theorem e_judge_rounds_first_1 : ((fun X l args sl h => shRound X r_judge_rounds_first_1 l args sl h) : Rn → Nat → List Value → Slots → H → Option Out) = x_judge_rounds_first_1 := (show ((fun X l args sl h => shRound X r_judge_rounds_first_1 l args sl h) : Rn → Nat → List Value → Slots → H → Option Out) = T_judge_rounds_first_1 (fun X l t5 t6 t8 t9 t10 t11 t12 t16 h => sh X c_judge_rounds_first_2 (KZ_judge_rounds_first_2 X l) (setL [p5, p6, p8, p9, p10, p11, p12, p16] [t5, t6, t8, t9, t10, t11, t12, t16]) h) by kernel_rfl).trans (by rw [e_judge_rounds_first_2]; rfl)
def T_judge_rounds_first (i_judge_rounds_first_0 : Rn → Value → Value → H → Option Out) (X : Rn) (args : List Value) (h : H) : Option Out :=
    uc args fun t0 args => uc args fun t1 args => uc args fun t2 args => uc args fun t3 args => uc args fun t4 args => un args (k2 (some (newPtr h (cellsL t0))) fun t5 h1 =>
    k2 (some (newPtr h1 (cellsL t1))) fun t6 h2 =>
    k2 (some (newPtr h2 (cellsL t3))) fun t8 h3 =>
    k2 (some (newPtr h3 (cellsL t4))) fun t9 h4 =>
    k2 (some (newPtr h4 [(.int .i64 0), (.int .i64 0), (.int .i64 0)])) fun t10 h5 =>
    k2 (some (newPtr h5 [(.bool false)])) fun t11 h6 =>
    k2 (vLoadN 3 t6 h6) fun t13 h7 =>
    k2 (some (t2, h7)) fun t14 h8 =>
    k2 (X.call (.func (.func n_judge_steps) #[] #[]) [t13, t14] h8) fun t15 h9 =>
    (isFn t15).bind fun fv => k2 (X.call fv [.func (.yield h9.next) #[] #[]] (h9.new (.loop .ready none (setL [p5, p6, p8, p9, p10, p11] [t5, t6, t8, t9, t10, t11]) r_judge_rounds_first_1))) fun _ h10 =>
    rgP h9.next h10 (fun h11 => i_judge_rounds_first_0 X t10 t11 h11) (fun i h11 => bx i 0 (i_judge_rounds_first_0 X t10 t11 h11) (none)) (fun h11 => (vRes (some 3) t10 h11).bind fun r0 => (vRes none t11 h11).bind fun r1 => some (.val (tupleOf [r0, r1]) h11)))
def x_judge_rounds_first : Rn → List Value → H → Option Out := T_judge_rounds_first x_judge_rounds_first_0
theorem e_judge_rounds_first : ((fun X args h => shFunc X 5 f_judge_rounds_first args h) : Rn → List Value → H → Option Out) = x_judge_rounds_first := (show ((fun X args h => shFunc X 5 f_judge_rounds_first args h) : Rn → List Value → H → Option Out) = T_judge_rounds_first (fun X t10 t11 h => sh X c_judge_rounds_first_0 (KZ_judge_rounds_first_0 X) (setL [p10, p11] [t10, t11]) h) by kernel_rfl).trans (by rw [e_judge_rounds_first_0]; rfl)
def T_judge_leads (X : Rn) (args : List Value) (h : H) : Option Out :=
    uc args fun t0 args => uc args fun t1 args => uc args fun t2 args => un args (k2 (some (newPtr h (cellsL t0))) fun t3 h1 =>
    k2 (some (newPtr h1 (cellsL t1))) fun t4 h2 =>
    k2 (some (newPtr h2 (cellsL t2))) fun t5 h3 =>
    k2 (some (.nilFunc, h3)) fun t6 h4 =>
    k2 (some (.func (.func n_judge_leads_1) ⟨[]⟩ ⟨[t3, t4, t5]⟩, h4)) fun t7 h5 =>
    k2 (some (t7, h5)) fun t6 h6 =>
    some (.val (tupleOf [t6]) h6))
def x_judge_leads : Rn → List Value → H → Option Out := T_judge_leads
theorem e_judge_leads : ((fun X args h => shFunc X 3 f_judge_leads args h) : Rn → List Value → H → Option Out) = x_judge_leads := by kernel_rfl
def T_slices_Clone_api_JudgeEdge_api_JudgeEdge_ (X : Rn) (args : List Value) (h : H) : Option Out :=
    uc args fun t0 args => un args (k2 (some ((.slice none 0 0), h)) fun t2 h1 =>
    k2 (some (t0, h1)) fun t3 h2 =>
    k2 (vBin .eql .slice t3 (.slice none 0 0) h2) fun t4 h3 =>
    br t4
      (k2 (some ((.slice none 0 0), h3)) fun t2 h4 =>
    some (.val (tupleOf [t2]) h4))
      (k2 (vSlice 0 (fillL (repeatL [(.int .i64 0), (.int .i64 0), (.int .i64 0)] 0) []) h3) fun t5 h5 =>
    k2 (some (t0, h5)) fun t6 h6 =>
    k2 (bltV h6 (.append 3 24) [t5, t6]) fun t7 h7 =>
    k2 (some (t7, h7)) fun t2 h8 =>
    some (.val (tupleOf [t2]) h8)))
def x_slices_Clone_api_JudgeEdge_api_JudgeEdge_ : Rn → List Value → H → Option Out := T_slices_Clone_api_JudgeEdge_api_JudgeEdge_
theorem e_slices_Clone_api_JudgeEdge_api_JudgeEdge_ : ((fun X args h => shFunc X 1 f_slices_Clone_api_JudgeEdge_api_JudgeEdge_ args h) : Rn → List Value → H → Option Out) = x_slices_Clone_api_JudgeEdge_api_JudgeEdge_ := by kernel_rfl
def T_judge_steps_1_0 (X : Rn) (z_0 : Z) (t0 t2 t18 t19 t20 : Value) (h : H) : Option Out :=
    k2 (vBin .lss .other t20 t19 h) fun t21 h1 =>
    br t21
      (k2 (vIndex 3 t18 t20 h1) fun t22 h2 =>
    k2 (vLoadN 3 t22 h2) fun t23 h3 =>
    k2 (some (newPtr h3 [(.int .i64 0), (.int .i64 0), (.int .i64 0)])) fun t7 h4 =>
    k2 (vStore 3 t7 t23 h4) fun _ h5 =>
    k2 (vField 0 t7 h5) fun t24 h6 =>
    k2 (vLoad1 t24 h6) fun t25 h7 =>
    k2 (vLoad1 t2 h7) fun t26 h8 =>
    k2 (vBin .neq .other t25 t26 h8) fun t27 h9 =>
    k2 (some (t27, h9)) fun t28 h10 =>
    k2 (gd t28 false h10 (some (t0, h10))) fun t29 h11 =>
    k2 (gd t28 false h11 (vLoadN 3 t7 h11)) fun t30 h12 =>
    k2 (gd t28 false h12 (X.call t29 [t30] h12)) fun t31 h13 =>
    k2 (gd t28 false h13 (vUn .not t31 h13)) fun t32 h14 =>
    k2 (vPick t28 (.bool true) t32 h14) fun t33 h15 =>
    br t33
      (some (.val (tupleOf []) h15))
      (k2 (vBin .add .other t20 (.int .i64 1) h15) fun t34 h16 =>
    k2 (some (t34, h16)) fun t20_17 h18 =>
    z_0 [t0, t2, t18, t19, t20_17] h18))
      (some (.val (tupleOf []) h1))
def x_judge_steps_1_0 : Rn → Z → Value → Value → Value → Value → Value → H → Option Out := T_judge_steps_1_0
theorem e_judge_steps_1_0 : ((fun X z_0 t0 t2 t18 t19 t20 h => sh X c_judge_steps_1_0 (KZ_judge_steps_1_0 X z_0) (setL [p0, p2, p18, p19, p20] [t0, t2, t18, t19, t20]) h) : Rn → Z → Value → Value → Value → Value → Value → H → Option Out) = x_judge_steps_1_0 := by kernel_rfl
def T_judge_steps_1 (i_judge_steps_1_0 : Rn → Z → Value → Value → Value → Value → Value → H → Option Out) (X : Rn) (args : List Value) (h : H) : Option Out :=
    uc args fun t0 args => uc args fun t1 args => uc args fun t2 args => un args (k2 (vField 2 t1 h) fun t9 h1 =>
    k2 (vLoad1 t9 h1) fun t10 h2 =>
    k2 (vLoad1 t2 h2) fun t11 h3 =>
    k2 (X.call (.func (.func n_slices_BinarySearchFunc_api_JudgeEdge_api_JudgeEdge_int_) #[] #[]) [t10, t11, (.func (.func n_judge_steps_1_1) #[] #[])] h3) fun t12 h4 =>
    k2 (some (t12, h4)) fun t8 h5 =>
    k2 (vExtract 0 t8 h5) fun t13 h6 =>
    k2 (vExtract 1 t8 h6) fun t14 h7 =>
    k2 (some (t13, h7)) fun t4 h8 =>
    k2 (some (t14, h8)) fun t5 h9 =>
    k2 (vField 2 t1 h9) fun t15 h10 =>
    k2 (vLoad1 t15 h10) fun t16 h11 =>
    k2 (some (t4, h11)) fun t17 h12 =>
    k2 (sliceV 3 h12 (some t17) none t16) fun t18 h13 =>
    k2 (bltV h13 .len [t18]) fun t19 h14 =>
    k2 (some ((.int .i64 0), h14)) fun t20 h15 =>
    X.loop [p0, p2, p18, p19, p20] c_judge_steps_1_0 (kBlk 0 (fnK [])) (fun z_0 vs h => uc vs fun t0 vs => uc vs fun t2 vs => uc vs fun t18 vs => uc vs fun t19 vs => uc vs fun t20 vs => un vs (i_judge_steps_1_0 X z_0 t0 t2 t18 t19 t20 h)) [t0, t2, t18, t19, t20] h15)
def x_judge_steps_1 : Rn → List Value → H → Option Out := T_judge_steps_1 x_judge_steps_1_0
theorem e_judge_steps_1 : ((fun X args h => shFunc X 3 f_judge_steps_1 args h) : Rn → List Value → H → Option Out) = x_judge_steps_1 := (show ((fun X args h => shFunc X 3 f_judge_steps_1 args h) : Rn → List Value → H → Option Out) = T_judge_steps_1 (fun X z_0 t0 t2 t18 t19 t20 h => sh X c_judge_steps_1_0 (KZ_judge_steps_1_0 X z_0) (setL [p0, p2, p18, p19, p20] [t0, t2, t18, t19, t20]) h) by kernel_rfl).trans (by rw [e_judge_steps_1_0]; rfl)
def T_slices_BinarySearchFunc_api_JudgeEdge_api_JudgeEdge_int__0 (X : Rn) (t0 t1 t2 t8 t9 : Value) (h : H) : Option Out :=
    k2 (some (t9, h)) fun t35 h1 =>
    k2 (some (t9, h1)) fun t36 h2 =>
    k2 (some (t8, h2)) fun t37 h3 =>
    k2 (vBin .lss .other t36 t37 h3) fun t38 h4 =>
    k2 (some (t38, h4)) fun t39 h5 =>
    k2 (gd t39 true h5 (some (t2, h5))) fun t40 h6 =>
    k2 (gd t39 true h6 (some (t0, h6))) fun t41 h7 =>
    k2 (gd t39 true h7 (some (t9, h7))) fun t42 h8 =>
    k2 (gd t39 true h8 (vIndex 3 t41 t42 h8)) fun t43 h9 =>
    k2 (gd t39 true h9 (vLoadN 3 t43 h9)) fun t44 h10 =>
    k2 (gd t39 true h10 (some (t1, h10))) fun t45 h11 =>
    k2 (gd t39 true h11 (X.call t40 [t44, t45] h11)) fun t46 h12 =>
    k2 (gd t39 true h12 (vBin .eql .other t46 (.int .i64 0) h12)) fun t47 h13 =>
    k2 (vPick t39 t47 (.bool false) h13) fun t48 h14 =>
    k2 (some (t35, h14)) fun t6 h15 =>
    k2 (some (t48, h15)) fun t7 h16 =>
    some (.val (tupleOf [t6, t7]) h16)
def x_slices_BinarySearchFunc_api_JudgeEdge_api_JudgeEdge_int__0 : Rn → Value → Value → Value → Value → Value → H → Option Out := T_slices_BinarySearchFunc_api_JudgeEdge_api_JudgeEdge_int__0
theorem e_slices_BinarySearchFunc_api_JudgeEdge_api_JudgeEdge_int__0 : ((fun X t0 t1 t2 t8 t9 h => sh X c_slices_BinarySearchFunc_api_JudgeEdge_api_JudgeEdge_int__0 (KZ_slices_BinarySearchFunc_api_JudgeEdge_api_JudgeEdge_int__0 X) (setL [p0, p1, p2, p8, p9] [t0, t1, t2, t8, t9]) h) : Rn → Value → Value → Value → Value → Value → H → Option Out) = x_slices_BinarySearchFunc_api_JudgeEdge_api_JudgeEdge_int__0 := by kernel_rfl
def T_slices_BinarySearchFunc_api_JudgeEdge_api_JudgeEdge_int__1 (i_slices_BinarySearchFunc_api_JudgeEdge_api_JudgeEdge_int__0 : Rn → Value → Value → Value → Value → Value → H → Option Out) (X : Rn) (z_1 : Z) (t0 t1 t2 t8 t9 t10 : Value) (h : H) : Option Out :=
    k2 (some (t9, h)) fun t15 h1 =>
    k2 (some (t10, h1)) fun t16 h2 =>
    k2 (vBin .lss .other t15 t16 h2) fun t17 h3 =>
    br t17
      (k2 (some (t9, h3)) fun t18 h4 =>
    k2 (some (t10, h4)) fun t19 h5 =>
    k2 (vBin .add .other t18 t19 h5) fun t20 h6 =>
    k2 (vConv .u64 t20 h6) fun t21 h7 =>
    k2 (vBin .shr .other t21 (.int .u64 1) h7) fun t22 h8 =>
    k2 (vConv .i64 t22 h8) fun t23 h9 =>
    k2 (some (t23, h9)) fun t11 h10 =>
    k2 (some (t2, h10)) fun t24 h11 =>
    k2 (some (t0, h11)) fun t25 h12 =>
    k2 (some (t11, h12)) fun t26 h13 =>
    k2 (vIndex 3 t25 t26 h13) fun t27 h14 =>
    k2 (vLoadN 3 t27 h14) fun t28 h15 =>
    k2 (some (t1, h15)) fun t29 h16 =>
    k2 (X.call t24 [t28, t29] h16) fun t30 h17 =>
    k2 (vBin .lss .other t30 (.int .i64 0) h17) fun t31 h18 =>
    br t31
      (k2 (some (t11, h18)) fun t32 h19 =>
    k2 (vBin .add .other t32 (.int .i64 1) h19) fun t33 h20 =>
    k2 (some (t33, h20)) fun t9_21 h22 =>
    z_1 [t0, t1, t2, t8, t9_21, t10] h22)
      (k2 (some (t11, h18)) fun t34 h23 =>
    k2 (some (t34, h23)) fun t10_24 h25 =>
    z_1 [t0, t1, t2, t8, t9, t10_24] h25))
      (i_slices_BinarySearchFunc_api_JudgeEdge_api_JudgeEdge_int__0 X t0 t1 t2 t8 t9 h3)
def x_slices_BinarySearchFunc_api_JudgeEdge_api_JudgeEdge_int__1 : Rn → Z → Value → Value → Value → Value → Value → Value → H → Option Out := T_slices_BinarySearchFunc_api_JudgeEdge_api_JudgeEdge_int__1 x_slices_BinarySearchFunc_api_JudgeEdge_api_JudgeEdge_int__0
theorem e_slices_BinarySearchFunc_api_JudgeEdge_api_JudgeEdge_int__1 : ((fun X z_1 t0 t1 t2 t8 t9 t10 h => sh X c_slices_BinarySearchFunc_api_JudgeEdge_api_JudgeEdge_int__1 (KZ_slices_BinarySearchFunc_api_JudgeEdge_api_JudgeEdge_int__1 X z_1) (setL [p0, p1, p2, p8, p9, p10] [t0, t1, t2, t8, t9, t10]) h) : Rn → Z → Value → Value → Value → Value → Value → Value → H → Option Out) = x_slices_BinarySearchFunc_api_JudgeEdge_api_JudgeEdge_int__1 := (show ((fun X z_1 t0 t1 t2 t8 t9 t10 h => sh X c_slices_BinarySearchFunc_api_JudgeEdge_api_JudgeEdge_int__1 (KZ_slices_BinarySearchFunc_api_JudgeEdge_api_JudgeEdge_int__1 X z_1) (setL [p0, p1, p2, p8, p9, p10] [t0, t1, t2, t8, t9, t10]) h) : Rn → Z → Value → Value → Value → Value → Value → Value → H → Option Out) = T_slices_BinarySearchFunc_api_JudgeEdge_api_JudgeEdge_int__1 (fun X t0 t1 t2 t8 t9 h => sh X c_slices_BinarySearchFunc_api_JudgeEdge_api_JudgeEdge_int__0 (KZ_slices_BinarySearchFunc_api_JudgeEdge_api_JudgeEdge_int__0 X) (setL [p0, p1, p2, p8, p9] [t0, t1, t2, t8, t9]) h) by kernel_rfl).trans (by rw [e_slices_BinarySearchFunc_api_JudgeEdge_api_JudgeEdge_int__0]; rfl)
def T_slices_BinarySearchFunc_api_JudgeEdge_api_JudgeEdge_int_ (i_slices_BinarySearchFunc_api_JudgeEdge_api_JudgeEdge_int__1 : Rn → Z → Value → Value → Value → Value → Value → Value → H → Option Out) (X : Rn) (args : List Value) (h : H) : Option Out :=
    uc args fun t0 args => uc args fun t1 args => uc args fun t2 args => un args (k2 (some ((.int .i64 0), h)) fun t6 h1 =>
    k2 (some ((.bool false), h1)) fun t7 h2 =>
    k2 (some (t0, h2)) fun t12 h3 =>
    k2 (bltV h3 .len [t12]) fun t13 h4 =>
    k2 (some (t13, h4)) fun t8 h5 =>
    k2 (some (t8, h5)) fun t14 h6 =>
    k2 (some ((.int .i64 0), h6)) fun t9 h7 =>
    k2 (some (t14, h7)) fun t10 h8 =>
    X.loop [p0, p1, p2, p8, p9, p10] c_slices_BinarySearchFunc_api_JudgeEdge_api_JudgeEdge_int__1 (kBlk 0 (kSeq X c_slices_BinarySearchFunc_api_JudgeEdge_api_JudgeEdge_int__0 [p0, p1, p2, p8, p9] (KZ_slices_BinarySearchFunc_api_JudgeEdge_api_JudgeEdge_int__0 X))) (fun z_1 vs h => uc vs fun t0 vs => uc vs fun t1 vs => uc vs fun t2 vs => uc vs fun t8 vs => uc vs fun t9 vs => uc vs fun t10 vs => un vs (i_slices_BinarySearchFunc_api_JudgeEdge_api_JudgeEdge_int__1 X z_1 t0 t1 t2 t8 t9 t10 h)) [t0, t1, t2, t8, t9, t10] h8)
def x_slices_BinarySearchFunc_api_JudgeEdge_api_JudgeEdge_int_ : Rn → List Value → H → Option Out := T_slices_BinarySearchFunc_api_JudgeEdge_api_JudgeEdge_int_ x_slices_BinarySearchFunc_api_JudgeEdge_api_JudgeEdge_int__1
theorem e_slices_BinarySearchFunc_api_JudgeEdge_api_JudgeEdge_int_ : ((fun X args h => shFunc X 3 f_slices_BinarySearchFunc_api_JudgeEdge_api_JudgeEdge_int_ args h) : Rn → List Value → H → Option Out) = x_slices_BinarySearchFunc_api_JudgeEdge_api_JudgeEdge_int_ := (show ((fun X args h => shFunc X 3 f_slices_BinarySearchFunc_api_JudgeEdge_api_JudgeEdge_int_ args h) : Rn → List Value → H → Option Out) = T_slices_BinarySearchFunc_api_JudgeEdge_api_JudgeEdge_int_ (fun X z_1 t0 t1 t2 t8 t9 t10 h => sh X c_slices_BinarySearchFunc_api_JudgeEdge_api_JudgeEdge_int__1 (KZ_slices_BinarySearchFunc_api_JudgeEdge_api_JudgeEdge_int__1 X z_1) (setL [p0, p1, p2, p8, p9, p10] [t0, t1, t2, t8, t9, t10]) h) by kernel_rfl).trans (by rw [e_slices_BinarySearchFunc_api_JudgeEdge_api_JudgeEdge_int__1]; rfl)
def T_judge_steps_1_1 (X : Rn) (args : List Value) (h : H) : Option Out :=
    uc args fun t0 args => uc args fun t1 args => un args (k2 (some (newPtr h (cellsL t0))) fun t2 h1 =>
    k2 (some ((.int .i64 0), h1)) fun t4 h2 =>
    k2 (vField 0 t2 h2) fun t5 h3 =>
    k2 (vLoad1 t5 h3) fun t6 h4 =>
    k2 (some (t1, h4)) fun t7 h5 =>
    k2 (X.call (.func (.func n_cmp_Compare_int_) #[] #[]) [t6, t7] h5) fun t8 h6 =>
    k2 (some (t8, h6)) fun t4 h7 =>
    some (.val (tupleOf [t4]) h7))
def x_judge_steps_1_1 : Rn → List Value → H → Option Out := T_judge_steps_1_1
theorem e_judge_steps_1_1 : ((fun X args h => shFunc X 2 f_judge_steps_1_1 args h) : Rn → List Value → H → Option Out) = x_judge_steps_1_1 := by kernel_rfl
def T_slices_Index_int_int__0 (X : Rn) (h : H) : Option Out :=
    k2 (some ((.int .i64 (-1)), h)) fun t4 h1 =>
    some (.val (tupleOf [t4]) h1)
def x_slices_Index_int_int__0 : Rn → H → Option Out := T_slices_Index_int_int__0
theorem e_slices_Index_int_int__0 : ((fun X h => sh X c_slices_Index_int_int__0 (KZ_slices_Index_int_int__0 X) (setL [] []) h) : Rn → H → Option Out) = x_slices_Index_int_int__0 := by kernel_rfl
def T_slices_Index_int_int__1 (i_slices_Index_int_int__0 : Rn → H → Option Out) (X : Rn) (z_1 : Z) (t0 t1 t7 t8 : Value) (h : H) : Option Out :=
    k2 (vBin .lss .other t8 t7 h) fun t9 h1 =>
    br t9
      (k2 (some (t8, h1)) fun t10 h2 =>
    k2 (some (t10, h2)) fun t5 h3 =>
    k2 (some (t1, h3)) fun t11 h4 =>
    k2 (some (t0, h4)) fun t12 h5 =>
    k2 (some (t5, h5)) fun t13 h6 =>
    k2 (vIndex 1 t12 t13 h6) fun t14 h7 =>
    k2 (vLoad1 t14 h7) fun t15 h8 =>
    k2 (vBin .eql .other t11 t15 h8) fun t16 h9 =>
    br t16
      (k2 (some (t5, h9)) fun t17 h10 =>
    k2 (some (t17, h10)) fun t4 h11 =>
    some (.val (tupleOf [t4]) h11))
      (k2 (vBin .add .other t8 (.int .i64 1) h9) fun t18 h12 =>
    k2 (some (t18, h12)) fun t8_13 h14 =>
    z_1 [t0, t1, t7, t8_13] h14))
      (i_slices_Index_int_int__0 X h1)
def x_slices_Index_int_int__1 : Rn → Z → Value → Value → Value → Value → H → Option Out := T_slices_Index_int_int__1 x_slices_Index_int_int__0
theorem e_slices_Index_int_int__1 : ((fun X z_1 t0 t1 t7 t8 h => sh X c_slices_Index_int_int__1 (KZ_slices_Index_int_int__1 X z_1) (setL [p0, p1, p7, p8] [t0, t1, t7, t8]) h) : Rn → Z → Value → Value → Value → Value → H → Option Out) = x_slices_Index_int_int__1 := (show ((fun X z_1 t0 t1 t7 t8 h => sh X c_slices_Index_int_int__1 (KZ_slices_Index_int_int__1 X z_1) (setL [p0, p1, p7, p8] [t0, t1, t7, t8]) h) : Rn → Z → Value → Value → Value → Value → H → Option Out) = T_slices_Index_int_int__1 (fun X h => sh X c_slices_Index_int_int__0 (KZ_slices_Index_int_int__0 X) (setL [] []) h) by kernel_rfl).trans (by rw [e_slices_Index_int_int__0]; rfl)
def T_slices_Index_int_int_ (i_slices_Index_int_int__1 : Rn → Z → Value → Value → Value → Value → H → Option Out) (X : Rn) (args : List Value) (h : H) : Option Out :=
    uc args fun t0 args => uc args fun t1 args => un args (k2 (some ((.int .i64 0), h)) fun t4 h1 =>
    k2 (some (t0, h1)) fun t6 h2 =>
    k2 (bltV h2 .len [t6]) fun t7 h3 =>
    k2 (some ((.int .i64 0), h3)) fun t8 h4 =>
    X.loop [p0, p1, p7, p8] c_slices_Index_int_int__1 (kBlk 0 (kSeq X c_slices_Index_int_int__0 [] (KZ_slices_Index_int_int__0 X))) (fun z_1 vs h => uc vs fun t0 vs => uc vs fun t1 vs => uc vs fun t7 vs => uc vs fun t8 vs => un vs (i_slices_Index_int_int__1 X z_1 t0 t1 t7 t8 h)) [t0, t1, t7, t8] h4)
def x_slices_Index_int_int_ : Rn → List Value → H → Option Out := T_slices_Index_int_int_ x_slices_Index_int_int__1
theorem e_slices_Index_int_int_ : ((fun X args h => shFunc X 2 f_slices_Index_int_int_ args h) : Rn → List Value → H → Option Out) = x_slices_Index_int_int_ := (show ((fun X args h => shFunc X 2 f_slices_Index_int_int_ args h) : Rn → List Value → H → Option Out) = T_slices_Index_int_int_ (fun X z_1 t0 t1 t7 t8 h => sh X c_slices_Index_int_int__1 (KZ_slices_Index_int_int__1 X z_1) (setL [p0, p1, p7, p8] [t0, t1, t7, t8]) h) by kernel_rfl).trans (by rw [e_slices_Index_int_int__1]; rfl)
def T_cmp_isNaN_int_ (X : Rn) (args : List Value) (h : H) : Option Out :=
    uc args fun t0 args => un args (k2 (some ((.bool false), h)) fun t2 h1 =>
    k2 (some (t0, h1)) fun t3 h2 =>
    k2 (some (t0, h2)) fun t4 h3 =>
    k2 (vBin .neq .other t3 t4 h3) fun t5 h4 =>
    k2 (some (t5, h4)) fun t2 h5 =>
    some (.val (tupleOf [t2]) h5))
def x_cmp_isNaN_int_ : Rn → List Value → H → Option Out := T_cmp_isNaN_int_
theorem e_cmp_isNaN_int_ : ((fun X args h => shFunc X 1 f_cmp_isNaN_int_ args h) : Rn → List Value → H → Option Out) = x_cmp_isNaN_int_ := by kernel_rfl
def T_judge_rounds_told_0 (X : Rn) (t10 : Value) (h : H) : Option Out :=
    k2 (vStore 1 t10 (.bool true) h) fun _ h1 =>
    (vRes none t10 h1).bind fun r0 => some (.val (tupleOf [r0]) h1)
def x_judge_rounds_told_0 : Rn → Value → H → Option Out := T_judge_rounds_told_0
theorem e_judge_rounds_told_0 : ((fun X t10 h => sh X c_judge_rounds_told_0 (KZ_judge_rounds_told_0 X) (setL [p10] [t10]) h) : Rn → Value → H → Option Out) = x_judge_rounds_told_0 := by kernel_rfl
def T_judge_rounds_told_2 (X : Rn) (l : Nat) (t5 t7 t9 t10 t11 t20 : Value) (h : H) : Option Out :=
    k2 (vField 1 t7 h) fun t21 h1 =>
    k2 (vLoad1 t21 h1) fun t22 h2 =>
    k2 (some (t11, h2)) fun t23 h3 =>
    k2 ((fillL [(.int .i64 0), (.int .i64 0)] [(0, 1, t22), (1, 1, t23)]).map fun c => (Value.agg ⟨c⟩, h3)) fun t24 h4 =>
    k2 (some (newPtr h4 [(.int .i64 0), (.int .i64 0)])) fun t12 h5 =>
    k2 (vStore 2 t12 t24 h5) fun _ h6 =>
    k2 (vLoad1 t5 h6) fun t26 h7 =>
    k2 (vLoadN 2 t12 h7) fun t27 h8 =>
    k2 (vLookup (.leaves [0, 1]) (.int .i64 0) true t26 t27 h8) fun t28 h9 =>
    k2 (some (t28, h9)) fun t25 h10 =>
    k2 (vExtract 0 t25 h10) fun t29 h11 =>
    k2 (vExtract 1 t25 h11) fun t30 h12 =>
    k2 (some (t29, h12)) fun t13 h13 =>
    k2 (some (t30, h13)) fun t14 h14 =>
    k2 (vLoadN 2 t12 h14) fun t31 h15 =>
    k2 (some (t11, h15)) fun t32 h16 =>
    k2 (some (t11, h16)) fun t33 h17 =>
    k2 ((fillL [(.int .i64 0), (.int .i64 0)] [(0, 1, t32), (1, 1, t33)]).map fun c => (Value.agg ⟨c⟩, h17)) fun t34 h18 =>
    k2 (vBin .eql (.leaves [0, 1]) t31 t34 h18) fun t35 h19 =>
    k2 (some (t35, h19)) fun t36 h20 =>
    k2 (gd t36 false h20 (some (t14, h20))) fun t37 h21 =>
    k2 (gd t36 false h21 (vUn .not t37 h21)) fun t38 h22 =>
    k2 (vPick t36 (.bool true) t38 h22) fun t39 h23 =>
    k2 (some (t39, h23)) fun t40 h24 =>
    k2 (gd t40 false h24 (some (t13, h24))) fun t41 h25 =>
    k2 (gd t40 false h25 (vLoad1 t9 h25)) fun t42 h26 =>
    k2 (gd t40 false h26 (vBin .gtr .other t41 t42 h26)) fun t43 h27 =>
    k2 (vPick t40 (.bool true) t43 h27) fun t44 h28 =>
    br t44
      (k2 (vStore 1 t10 (.bool false) h28) fun _ h29 =>
    fin l (some .ret) h29)
      (fin l none h28)
def x_judge_rounds_told_2 : Rn → Nat → Value → Value → Value → Value → Value → Value → H → Option Out := T_judge_rounds_told_2
theorem e_judge_rounds_told_2 : ((fun X l t5 t7 t9 t10 t11 t20 h => sh X c_judge_rounds_told_2 (KZ_judge_rounds_told_2 X l) (setL [p5, p7, p9, p10, p11, p20] [t5, t7, t9, t10, t11, t20]) h) : Rn → Nat → Value → Value → Value → Value → Value → Value → H → Option Out) = x_judge_rounds_told_2 := by kernel_rfl
def T_judge_rounds_told_1 (i_judge_rounds_told_2 : Rn → Nat → Value → Value → Value → Value → Value → Value → H → Option Out) (X : Rn) (l : Nat) (args : List Value) (sl : Slots) (h : H) : Option Out :=
    (sl.get p5).bind fun t5 => (sl.get p7).bind fun t7 => (sl.get p9).bind fun t9 => (sl.get p10).bind fun t10 => uc args fun t20 args => un args (k2 (some (t20, h)) fun t11 h1 =>
    busyK l h1 fun h => i_judge_rounds_told_2 X l t5 t7 t9 t10 t11 t20 h)
def x_judge_rounds_told_1 : Rn → Nat → List Value → Slots → H → Option Out := T_judge_rounds_told_1 x_judge_rounds_told_2
theorem e_judge_rounds_told_1 : ((fun X l args sl h => shRound X r_judge_rounds_told_1 l args sl h) : Rn → Nat → List Value → Slots → H → Option Out) = x_judge_rounds_told_1 := (show ((fun X l args sl h => shRound X r_judge_rounds_told_1 l args sl h) : Rn → Nat → List Value → Slots → H → Option Out) = T_judge_rounds_told_1 (fun X l t5 t7 t9 t10 t11 t20 h => sh X c_judge_rounds_told_2 (KZ_judge_rounds_told_2 X l) (setL [p5, p7, p9, p10, p11, p20] [t5, t7, t9, t10, t11, t20]) h) by kernel_rfl).trans (by rw [e_judge_rounds_told_2]; rfl)
def T_judge_rounds_told (i_judge_rounds_told_0 : Rn → Value → H → Option Out) (X : Rn) (args : List Value) (h : H) : Option Out :=
    uc args fun t0 args => uc args fun t1 args => uc args fun t2 args => uc args fun t3 args => uc args fun t4 args => un args (k2 (some (newPtr h (cellsL t0))) fun t5 h1 =>
    k2 (some (newPtr h1 (cellsL t1))) fun t6 h2 =>
    k2 (some (newPtr h2 (cellsL t2))) fun t7 h3 =>
    k2 (some (newPtr h3 (cellsL t4))) fun t9 h4 =>
    k2 (some (newPtr h4 [(.bool false)])) fun t10 h5 =>
    k2 (vLoadN 3 t6 h5) fun t15 h6 =>
    k2 (some (t3, h6)) fun t16 h7 =>
    k2 (vField 2 t7 h7) fun t17 h8 =>
    k2 (vLoad1 t17 h8) fun t18 h9 =>
    k2 (X.call (.func (.func n_judge_leads) #[] #[]) [t15, t16, t18] h9) fun t19 h10 =>
    (isFn t19).bind fun fv => k2 (X.call fv [.func (.yield h10.next) #[] #[]] (h10.new (.loop .ready none (setL [p5, p7, p9, p10] [t5, t7, t9, t10]) r_judge_rounds_told_1))) fun _ h11 =>
    rgP h10.next h11 (fun h12 => i_judge_rounds_told_0 X t10 h12) (fun i h12 => bx i 0 (i_judge_rounds_told_0 X t10 h12) (none)) (fun h12 => (vRes none t10 h12).bind fun r0 => some (.val (tupleOf [r0]) h12)))
def x_judge_rounds_told : Rn → List Value → H → Option Out := T_judge_rounds_told x_judge_rounds_told_0
theorem e_judge_rounds_told : ((fun X args h => shFunc X 5 f_judge_rounds_told args h) : Rn → List Value → H → Option Out) = x_judge_rounds_told := (show ((fun X args h => shFunc X 5 f_judge_rounds_told args h) : Rn → List Value → H → Option Out) = T_judge_rounds_told (fun X t10 h => sh X c_judge_rounds_told_0 (KZ_judge_rounds_told_0 X) (setL [p10] [t10]) h) by kernel_rfl).trans (by rw [e_judge_rounds_told_0]; rfl)
def T_judge_leads_1_1 (X : Rn) (l : Nat) (t3 t4 t5 t9 : Value) (h : H) : Option Out :=
    k2 (vField 2 t5 h) fun t10 h1 =>
    k2 (vLoad1 t10 h1) fun t11 h2 =>
    k2 (vLoad1 t3 h2) fun t12 h3 =>
    k2 (vBin .eql .other t11 t12 h3) fun t13 h4 =>
    k2 (some (t13, h4)) fun t14 h5 =>
    k2 (gd t14 true h5 (vLoad1 t4 h5)) fun t15 h6 =>
    k2 (gd t14 true h6 (vField 1 t5 h6)) fun t16 h7 =>
    k2 (gd t14 true h7 (vLoad1 t16 h7)) fun t17 h8 =>
    k2 (gd t14 true h8 (X.call t15 [t17] h8)) fun t18 h9 =>
    k2 (gd t14 true h9 (vUn .not t18 h9)) fun t19 h10 =>
    k2 (vPick t14 t19 (.bool false) h10) fun t20 h11 =>
    br t20
      (fin l (some .ret) h11)
      (fin l none h11)
def x_judge_leads_1_1 : Rn → Nat → Value → Value → Value → Value → H → Option Out := T_judge_leads_1_1
theorem e_judge_leads_1_1 : ((fun X l t3 t4 t5 t9 h => sh X c_judge_leads_1_1 (KZ_judge_leads_1_1 X l) (setL [p3, p4, p5, p9] [t3, t4, t5, t9]) h) : Rn → Nat → Value → Value → Value → Value → H → Option Out) = x_judge_leads_1_1 := by kernel_rfl
def T_judge_leads_1_0 (i_judge_leads_1_1 : Rn → Nat → Value → Value → Value → Value → H → Option Out) (X : Rn) (l : Nat) (args : List Value) (sl : Slots) (h : H) : Option Out :=
    (sl.get p3).bind fun t3 => (sl.get p4).bind fun t4 => uc args fun t9 args => un args (k2 (some (newPtr h [(.int .i64 0), (.int .i64 0), (.int .i64 0)])) fun t5 h1 =>
    k2 (vStore 3 t5 t9 h1) fun _ h2 =>
    busyK l h2 fun h => i_judge_leads_1_1 X l t3 t4 t5 t9 h)
def x_judge_leads_1_0 : Rn → Nat → List Value → Slots → H → Option Out := T_judge_leads_1_0 x_judge_leads_1_1
theorem e_judge_leads_1_0 : ((fun X l args sl h => shRound X r_judge_leads_1_0 l args sl h) : Rn → Nat → List Value → Slots → H → Option Out) = x_judge_leads_1_0 := (show ((fun X l args sl h => shRound X r_judge_leads_1_0 l args sl h) : Rn → Nat → List Value → Slots → H → Option Out) = T_judge_leads_1_0 (fun X l t3 t4 t5 t9 h => sh X c_judge_leads_1_1 (KZ_judge_leads_1_1 X l) (setL [p3, p4, p5, p9] [t3, t4, t5, t9]) h) by kernel_rfl).trans (by rw [e_judge_leads_1_1]; rfl)
def T_judge_leads_1 (X : Rn) (args : List Value) (h : H) : Option Out :=
    uc args fun t0 args => uc args fun t1 args => uc args fun t2 args => uc args fun t3 args => un args (k2 (some (newPtr h (cellsL t0))) fun t4 h1 =>
    k2 (vLoadN 3 t1 h1) fun t6 h2 =>
    k2 (vLoad1 t2 h2) fun t7 h3 =>
    k2 (X.call (.func (.func n_judge_steps) #[] #[]) [t6, t7] h3) fun t8 h4 =>
    (isFn t8).bind fun fv => k2 (X.call fv [.func (.yield h4.next) #[] #[]] (h4.new (.loop .ready none (setL [p3, p4] [t3, t4]) r_judge_leads_1_0))) fun _ h5 =>
    rgP h4.next h5 (fun h6 => some (.val (tupleOf []) h6)) (fun i h6 => bx i 0 (some (.val (tupleOf []) h6)) (none)) (fun h6 => some (.val (tupleOf []) h6)))
def x_judge_leads_1 : Rn → List Value → H → Option Out := T_judge_leads_1
theorem e_judge_leads_1 : ((fun X args h => shFunc X 4 f_judge_leads_1 args h) : Rn → List Value → H → Option Out) = x_judge_leads_1 := by kernel_rfl
def tabT : List (Nat × (Rn → List Value → H → Option Out)) := [(n_judge_Weak, x_judge_Weak), (n_judge_Check, x_judge_Check), (n_cabotageref22_SameGraph, x_cabotageref22_SameGraph), (n_cabotagelaw22_known, x_cabotagelaw22_known), (n_judge_Tells, x_judge_Tells), (n_cabotageref22_SameFormula, x_cabotageref22_SameFormula), (n_judge_Alike, x_judge_Alike), (n_judge_Classes, x_judge_Classes), (n_cabotageref03_SameInts, x_cabotageref03_SameInts), (n_judge_weak, x_judge_weak), (n_judge_compare, x_judge_compare), (n_cabotagelaw22_edges, x_cabotagelaw22_edges), (n_cabotageref22_Both, x_cabotageref22_Both), (n_judge_isState, x_judge_isState), (n_judge_apart, x_judge_apart), (n_judge_teller_size, x_judge_teller_size), (n_judge_teller_formula, x_judge_teller_formula), (n_judge_both, x_judge_both), (n_judge_alike, x_judge_alike), (n_judge_classes, x_judge_classes), (n_judge_steps, x_judge_steps), (n_slices_Contains_int_int_, x_slices_Contains_int_int_), (n_cmp_Compare_int_, x_cmp_Compare_int_), (n_judge_silent, x_judge_silent), (n_cmp_Or_int_, x_cmp_Or_int_), (n_judge_rounds_first, x_judge_rounds_first), (n_judge_leads, x_judge_leads), (n_slices_Clone_api_JudgeEdge_api_JudgeEdge_, x_slices_Clone_api_JudgeEdge_api_JudgeEdge_), (n_judge_steps_1, x_judge_steps_1), (n_slices_BinarySearchFunc_api_JudgeEdge_api_JudgeEdge_int_, x_slices_BinarySearchFunc_api_JudgeEdge_api_JudgeEdge_int_), (n_judge_steps_1_1, x_judge_steps_1_1), (n_slices_Index_int_int_, x_slices_Index_int_int_), (n_cmp_isNaN_int_, x_cmp_isNaN_int_), (n_judge_rounds_told, x_judge_rounds_told), (n_judge_leads_1, x_judge_leads_1)]
def tabR : List (RC × (Rn → Nat → List Value → Slots → H → Option Out)) := [(r_judge_weak_10, x_judge_weak_10), (r_judge_teller_size_1, x_judge_teller_size_1), (r_judge_teller_formula_1, x_judge_teller_formula_1), (r_judge_silent_3, x_judge_silent_3), (r_judge_rounds_first_1, x_judge_rounds_first_1), (r_judge_rounds_told_1, x_judge_rounds_told_1), (r_judge_leads_1_0, x_judge_leads_1_0)]

end Go.Ideal.X
end
set_option maxRecDepth 100000
set_option maxHeartbeats 4000000
set_option linter.unusedVariables false
noncomputable section
namespace Go.Ideal.X
open Go Go.Ideal Go.Ideal.J
theorem F_judge_Weak : lookF tabF n_judge_Weak = some f_judge_Weak := by kernel_rfl
theorem F_judge_Check : lookF tabF n_judge_Check = some f_judge_Check := by kernel_rfl
theorem F_cabotageref22_SameGraph : lookF tabF n_cabotageref22_SameGraph = some f_cabotageref22_SameGraph := by kernel_rfl
theorem F_cabotagelaw22_known : lookF tabF n_cabotagelaw22_known = some f_cabotagelaw22_known := by kernel_rfl
theorem F_judge_Tells : lookF tabF n_judge_Tells = some f_judge_Tells := by kernel_rfl
theorem F_cabotageref22_SameFormula : lookF tabF n_cabotageref22_SameFormula = some f_cabotageref22_SameFormula := by kernel_rfl
theorem F_judge_Alike : lookF tabF n_judge_Alike = some f_judge_Alike := by kernel_rfl
theorem F_judge_Classes : lookF tabF n_judge_Classes = some f_judge_Classes := by kernel_rfl
theorem F_cabotageref03_SameInts : lookF tabF n_cabotageref03_SameInts = some f_cabotageref03_SameInts := by kernel_rfl
theorem F_judge_weak : lookF tabF n_judge_weak = some f_judge_weak := by kernel_rfl
theorem F_judge_compare : lookF tabF n_judge_compare = some f_judge_compare := by kernel_rfl
theorem F_cabotagelaw22_edges : lookF tabF n_cabotagelaw22_edges = some f_cabotagelaw22_edges := by kernel_rfl
theorem F_cabotageref22_Both : lookF tabF n_cabotageref22_Both = some f_cabotageref22_Both := by kernel_rfl
theorem F_judge_isState : lookF tabF n_judge_isState = some f_judge_isState := by kernel_rfl
theorem F_judge_apart : lookF tabF n_judge_apart = some f_judge_apart := by kernel_rfl
theorem F_judge_teller_size : lookF tabF n_judge_teller_size = some f_judge_teller_size := by kernel_rfl
theorem F_judge_teller_formula : lookF tabF n_judge_teller_formula = some f_judge_teller_formula := by kernel_rfl
theorem F_judge_both : lookF tabF n_judge_both = some f_judge_both := by kernel_rfl
theorem F_judge_alike : lookF tabF n_judge_alike = some f_judge_alike := by kernel_rfl
theorem F_judge_classes : lookF tabF n_judge_classes = some f_judge_classes := by kernel_rfl
theorem F_judge_steps : lookF tabF n_judge_steps = some f_judge_steps := by kernel_rfl
theorem F_slices_Contains_int_int_ : lookF tabF n_slices_Contains_int_int_ = some f_slices_Contains_int_int_ := by kernel_rfl
theorem F_cmp_Compare_int_ : lookF tabF n_cmp_Compare_int_ = some f_cmp_Compare_int_ := by kernel_rfl
theorem F_judge_silent : lookF tabF n_judge_silent = some f_judge_silent := by kernel_rfl
theorem F_cmp_Or_int_ : lookF tabF n_cmp_Or_int_ = some f_cmp_Or_int_ := by kernel_rfl
theorem F_judge_rounds_first : lookF tabF n_judge_rounds_first = some f_judge_rounds_first := by kernel_rfl
theorem F_judge_leads : lookF tabF n_judge_leads = some f_judge_leads := by kernel_rfl
theorem F_slices_Clone_api_JudgeEdge_api_JudgeEdge_ : lookF tabF n_slices_Clone_api_JudgeEdge_api_JudgeEdge_ = some f_slices_Clone_api_JudgeEdge_api_JudgeEdge_ := by kernel_rfl
theorem F_judge_steps_1 : lookF tabF n_judge_steps_1 = some f_judge_steps_1 := by kernel_rfl
theorem F_slices_BinarySearchFunc_api_JudgeEdge_api_JudgeEdge_int_ : lookF tabF n_slices_BinarySearchFunc_api_JudgeEdge_api_JudgeEdge_int_ = some f_slices_BinarySearchFunc_api_JudgeEdge_api_JudgeEdge_int_ := by kernel_rfl
theorem F_judge_steps_1_1 : lookF tabF n_judge_steps_1_1 = some f_judge_steps_1_1 := by kernel_rfl
theorem F_slices_Index_int_int_ : lookF tabF n_slices_Index_int_int_ = some f_slices_Index_int_int_ := by kernel_rfl
theorem F_cmp_isNaN_int_ : lookF tabF n_cmp_isNaN_int_ = some f_cmp_isNaN_int_ := by kernel_rfl
theorem F_judge_rounds_told : lookF tabF n_judge_rounds_told = some f_judge_rounds_told := by kernel_rfl
theorem F_judge_leads_1 : lookF tabF n_judge_leads_1 = some f_judge_leads_1 := by kernel_rfl
theorem okT : ∀ p ∈ tabT, ∃ cf n, lookF tabF p.1 = some cf ∧ n ≤ cf.ntmps ∧ (fun X args h => shFunc X n cf args h) = p.2 :=
  (List.forall_mem_cons.2 ⟨⟨f_judge_Weak, 1, F_judge_Weak, by decide, e_judge_Weak⟩, (List.forall_mem_cons.2 ⟨⟨f_judge_Check, 1, F_judge_Check, by decide, e_judge_Check⟩, (List.forall_mem_cons.2 ⟨⟨f_cabotageref22_SameGraph, 2, F_cabotageref22_SameGraph, by decide, e_cabotageref22_SameGraph⟩, (List.forall_mem_cons.2 ⟨⟨f_cabotagelaw22_known, 0, F_cabotagelaw22_known, by decide, e_cabotagelaw22_known⟩, (List.forall_mem_cons.2 ⟨⟨f_judge_Tells, 3, F_judge_Tells, by decide, e_judge_Tells⟩, (List.forall_mem_cons.2 ⟨⟨f_cabotageref22_SameFormula, 2, F_cabotageref22_SameFormula, by decide, e_cabotageref22_SameFormula⟩, (List.forall_mem_cons.2 ⟨⟨f_judge_Alike, 2, F_judge_Alike, by decide, e_judge_Alike⟩, (List.forall_mem_cons.2 ⟨⟨f_judge_Classes, 1, F_judge_Classes, by decide, e_judge_Classes⟩, (List.forall_mem_cons.2 ⟨⟨f_cabotageref03_SameInts, 2, F_cabotageref03_SameInts, by decide, e_cabotageref03_SameInts⟩, (List.forall_mem_cons.2 ⟨⟨f_judge_weak, 1, F_judge_weak, by decide, e_judge_weak⟩, (List.forall_mem_cons.2 ⟨⟨f_judge_compare, 2, F_judge_compare, by decide, e_judge_compare⟩, (List.forall_mem_cons.2 ⟨⟨f_cabotagelaw22_edges, 1, F_cabotagelaw22_edges, by decide, e_cabotagelaw22_edges⟩, (List.forall_mem_cons.2 ⟨⟨f_cabotageref22_Both, 2, F_cabotageref22_Both, by decide, e_cabotageref22_Both⟩, (List.forall_mem_cons.2 ⟨⟨f_judge_isState, 2, F_judge_isState, by decide, e_judge_isState⟩, (List.forall_mem_cons.2 ⟨⟨f_judge_apart, 1, F_judge_apart, by decide, e_judge_apart⟩, (List.forall_mem_cons.2 ⟨⟨f_judge_teller_size, 3, F_judge_teller_size, by decide, e_judge_teller_size⟩, (List.forall_mem_cons.2 ⟨⟨f_judge_teller_formula, 3, F_judge_teller_formula, by decide, e_judge_teller_formula⟩, (List.forall_mem_cons.2 ⟨⟨f_judge_both, 2, F_judge_both, by decide, e_judge_both⟩, (List.forall_mem_cons.2 ⟨⟨f_judge_alike, 2, F_judge_alike, by decide, e_judge_alike⟩, (List.forall_mem_cons.2 ⟨⟨f_judge_classes, 1, F_judge_classes, by decide, e_judge_classes⟩, (List.forall_mem_cons.2 ⟨⟨f_judge_steps, 2, F_judge_steps, by decide, e_judge_steps⟩, (List.forall_mem_cons.2 ⟨⟨f_slices_Contains_int_int_, 2, F_slices_Contains_int_int_, by decide, e_slices_Contains_int_int_⟩, (List.forall_mem_cons.2 ⟨⟨f_cmp_Compare_int_, 2, F_cmp_Compare_int_, by decide, e_cmp_Compare_int_⟩, (List.forall_mem_cons.2 ⟨⟨f_judge_silent, 2, F_judge_silent, by decide, e_judge_silent⟩, (List.forall_mem_cons.2 ⟨⟨f_cmp_Or_int_, 1, F_cmp_Or_int_, by decide, e_cmp_Or_int_⟩, (List.forall_mem_cons.2 ⟨⟨f_judge_rounds_first, 5, F_judge_rounds_first, by decide, e_judge_rounds_first⟩, (List.forall_mem_cons.2 ⟨⟨f_judge_leads, 3, F_judge_leads, by decide, e_judge_leads⟩, (List.forall_mem_cons.2 ⟨⟨f_slices_Clone_api_JudgeEdge_api_JudgeEdge_, 1, F_slices_Clone_api_JudgeEdge_api_JudgeEdge_, by decide, e_slices_Clone_api_JudgeEdge_api_JudgeEdge_⟩, (List.forall_mem_cons.2 ⟨⟨f_judge_steps_1, 3, F_judge_steps_1, by decide, e_judge_steps_1⟩, (List.forall_mem_cons.2 ⟨⟨f_slices_BinarySearchFunc_api_JudgeEdge_api_JudgeEdge_int_, 3, F_slices_BinarySearchFunc_api_JudgeEdge_api_JudgeEdge_int_, by decide, e_slices_BinarySearchFunc_api_JudgeEdge_api_JudgeEdge_int_⟩, (List.forall_mem_cons.2 ⟨⟨f_judge_steps_1_1, 2, F_judge_steps_1_1, by decide, e_judge_steps_1_1⟩, (List.forall_mem_cons.2 ⟨⟨f_slices_Index_int_int_, 2, F_slices_Index_int_int_, by decide, e_slices_Index_int_int_⟩, (List.forall_mem_cons.2 ⟨⟨f_cmp_isNaN_int_, 1, F_cmp_isNaN_int_, by decide, e_cmp_isNaN_int_⟩, (List.forall_mem_cons.2 ⟨⟨f_judge_rounds_told, 5, F_judge_rounds_told, by decide, e_judge_rounds_told⟩, (List.forall_mem_cons.2 ⟨⟨f_judge_leads_1, 4, F_judge_leads_1, by decide, e_judge_leads_1⟩, (fun _ h => by cases h)⟩)⟩)⟩)⟩)⟩)⟩)⟩)⟩)⟩)⟩)⟩)⟩)⟩)⟩)⟩)⟩)⟩)⟩)⟩)⟩)⟩)⟩)⟩)⟩)⟩)⟩)⟩)⟩)⟩)⟩)⟩)⟩)⟩)⟩)⟩)
theorem okR : ∀ p ∈ tabR, (fun X l args sl h => shRound X p.1 l args sl h) = p.2 :=
  (List.forall_mem_cons.2 ⟨e_judge_weak_10, (List.forall_mem_cons.2 ⟨e_judge_teller_size_1, (List.forall_mem_cons.2 ⟨e_judge_teller_formula_1, (List.forall_mem_cons.2 ⟨e_judge_silent_3, (List.forall_mem_cons.2 ⟨e_judge_rounds_first_1, (List.forall_mem_cons.2 ⟨e_judge_rounds_told_1, (List.forall_mem_cons.2 ⟨e_judge_leads_1_0, (fun _ h => by cases h)⟩)⟩)⟩)⟩)⟩)⟩)⟩)
theorem tabs : TabOk (lookF tabF) (lookR (tabR.map (·.1))) (tabOf tabT) (rtabOf tabR) := tabOk (by kernel_rfl) (by decide) okT okR
theorem run : isT (callN (tabOf tabT) (rtabOf tabR) 100000 200 (.func (.func n_cabotagelaw22_known) #[] #[]) [] H.empty) = true := by kernel_rfl
end Go.Ideal.X
end
set_option maxRecDepth 100000
set_option maxHeartbeats 4000000
set_option linter.unusedVariables false
noncomputable section
namespace Go.Ideal.X
open Go Go.Ideal Go.Ideal.J
theorem C_judge_Weak : compileFunc Go.Proofs.Try.prog Go.Proofs.Try.f11 = some (stripF f_judge_Weak) := by kernel_rfl
theorem C_judge_Check : compileFunc Go.Proofs.Try.prog Go.Proofs.Try.f13 = some (stripF f_judge_Check) := by kernel_rfl
theorem C_cabotageref22_SameGraph : compileFunc Go.Proofs.Try.prog Go.Proofs.Try.f15 = some (stripF f_cabotageref22_SameGraph) := by kernel_rfl
theorem C_cabotagelaw22_known : compileFunc Go.Proofs.Try.prog Go.Proofs.Try.f16 = some (stripF f_cabotagelaw22_known) := by kernel_rfl
theorem C_judge_Tells : compileFunc Go.Proofs.Try.prog Go.Proofs.Try.f17 = some (stripF f_judge_Tells) := by kernel_rfl
theorem C_cabotageref22_SameFormula : compileFunc Go.Proofs.Try.prog Go.Proofs.Try.f19 = some (stripF f_cabotageref22_SameFormula) := by kernel_rfl
theorem C_judge_Alike : compileFunc Go.Proofs.Try.prog Go.Proofs.Try.f20 = some (stripF f_judge_Alike) := by kernel_rfl
theorem C_judge_Classes : compileFunc Go.Proofs.Try.prog Go.Proofs.Try.f26 = some (stripF f_judge_Classes) := by kernel_rfl
theorem C_cabotageref03_SameInts : compileFunc Go.Proofs.Try.prog Go.Proofs.Try.f30 = some (stripF f_cabotageref03_SameInts) := by kernel_rfl
theorem C_judge_weak : compileFunc Go.Proofs.Try.prog Go.Proofs.Try.f31 = some (stripF f_judge_weak) := by kernel_rfl
theorem C_judge_compare : compileFunc Go.Proofs.Try.prog Go.Proofs.Try.f33 = some (stripF f_judge_compare) := by kernel_rfl
theorem C_cabotagelaw22_edges : compileFunc Go.Proofs.Try.prog Go.Proofs.Try.f35 = some (stripF f_cabotagelaw22_edges) := by kernel_rfl
theorem C_cabotageref22_Both : compileFunc Go.Proofs.Try.prog Go.Proofs.Try.f36 = some (stripF f_cabotageref22_Both) := by kernel_rfl
theorem C_judge_isState : compileFunc Go.Proofs.Try.prog Go.Proofs.Try.f37 = some (stripF f_judge_isState) := by kernel_rfl
theorem C_judge_apart : compileFunc Go.Proofs.Try.prog Go.Proofs.Try.f38 = some (stripF f_judge_apart) := by kernel_rfl
theorem C_judge_teller_size : compileFunc Go.Proofs.Try.prog Go.Proofs.Try.f39 = some (stripF f_judge_teller_size) := by kernel_rfl
theorem C_judge_teller_formula : compileFunc Go.Proofs.Try.prog Go.Proofs.Try.f40 = some (stripF f_judge_teller_formula) := by kernel_rfl
theorem C_judge_both : compileFunc Go.Proofs.Try.prog Go.Proofs.Try.f44 = some (stripF f_judge_both) := by kernel_rfl
theorem C_judge_alike : compileFunc Go.Proofs.Try.prog Go.Proofs.Try.f45 = some (stripF f_judge_alike) := by kernel_rfl
theorem C_judge_classes : compileFunc Go.Proofs.Try.prog Go.Proofs.Try.f52 = some (stripF f_judge_classes) := by kernel_rfl
theorem C_judge_steps : compileFunc Go.Proofs.Try.prog Go.Proofs.Try.f54 = some (stripF f_judge_steps) := by kernel_rfl
theorem C_slices_Contains_int_int_ : compileFunc Go.Proofs.Try.prog Go.Proofs.Try.f55 = some (stripF f_slices_Contains_int_int_) := by kernel_rfl
theorem C_cmp_Compare_int_ : compileFunc Go.Proofs.Try.prog Go.Proofs.Try.f57 = some (stripF f_cmp_Compare_int_) := by kernel_rfl
theorem C_judge_silent : compileFunc Go.Proofs.Try.prog Go.Proofs.Try.f62 = some (stripF f_judge_silent) := by kernel_rfl
theorem C_cmp_Or_int_ : compileFunc Go.Proofs.Try.prog Go.Proofs.Try.f63 = some (stripF f_cmp_Or_int_) := by kernel_rfl
theorem C_judge_rounds_first : compileFunc Go.Proofs.Try.prog Go.Proofs.Try.f64 = some (stripF f_judge_rounds_first) := by kernel_rfl
theorem C_judge_leads : compileFunc Go.Proofs.Try.prog Go.Proofs.Try.f65 = some (stripF f_judge_leads) := by kernel_rfl
theorem C_slices_Clone_api_JudgeEdge_api_JudgeEdge_ : compileFunc Go.Proofs.Try.prog Go.Proofs.Try.f68 = some (stripF f_slices_Clone_api_JudgeEdge_api_JudgeEdge_) := by kernel_rfl
theorem C_judge_steps_1 : compileFunc Go.Proofs.Try.prog Go.Proofs.Try.f69 = some (stripF f_judge_steps_1) := by kernel_rfl
theorem C_slices_BinarySearchFunc_api_JudgeEdge_api_JudgeEdge_int_ : compileFunc Go.Proofs.Try.prog Go.Proofs.Try.f70 = some (stripF f_slices_BinarySearchFunc_api_JudgeEdge_api_JudgeEdge_int_) := by kernel_rfl
theorem C_judge_steps_1_1 : compileFunc Go.Proofs.Try.prog Go.Proofs.Try.f71 = some (stripF f_judge_steps_1_1) := by kernel_rfl
theorem C_slices_Index_int_int_ : compileFunc Go.Proofs.Try.prog Go.Proofs.Try.f72 = some (stripF f_slices_Index_int_int_) := by kernel_rfl
theorem C_cmp_isNaN_int_ : compileFunc Go.Proofs.Try.prog Go.Proofs.Try.f75 = some (stripF f_cmp_isNaN_int_) := by kernel_rfl
theorem C_judge_rounds_told : compileFunc Go.Proofs.Try.prog Go.Proofs.Try.f80 = some (stripF f_judge_rounds_told) := by kernel_rfl
theorem C_judge_leads_1 : compileFunc Go.Proofs.Try.prog Go.Proofs.Try.f81 = some (stripF f_judge_leads_1) := by kernel_rfl
theorem okF : ∀ p ∈ tabF, FnOk Go.Proofs.Try.prog p.1 p.2 :=
  (List.forall_mem_cons.2 ⟨(.inl ⟨Go.Proofs.Try.f11, Go.Proofs.Try.func11, C_judge_Weak⟩), (List.forall_mem_cons.2 ⟨(.inl ⟨Go.Proofs.Try.f13, Go.Proofs.Try.func13, C_judge_Check⟩), (List.forall_mem_cons.2 ⟨(.inl ⟨Go.Proofs.Try.f15, Go.Proofs.Try.func15, C_cabotageref22_SameGraph⟩), (List.forall_mem_cons.2 ⟨(.inl ⟨Go.Proofs.Try.f16, Go.Proofs.Try.func16, C_cabotagelaw22_known⟩), (List.forall_mem_cons.2 ⟨(.inl ⟨Go.Proofs.Try.f17, Go.Proofs.Try.func17, C_judge_Tells⟩), (List.forall_mem_cons.2 ⟨(.inl ⟨Go.Proofs.Try.f19, Go.Proofs.Try.func19, C_cabotageref22_SameFormula⟩), (List.forall_mem_cons.2 ⟨(.inl ⟨Go.Proofs.Try.f20, Go.Proofs.Try.func20, C_judge_Alike⟩), (List.forall_mem_cons.2 ⟨(.inl ⟨Go.Proofs.Try.f26, Go.Proofs.Try.func26, C_judge_Classes⟩), (List.forall_mem_cons.2 ⟨(.inl ⟨Go.Proofs.Try.f30, Go.Proofs.Try.func30, C_cabotageref03_SameInts⟩), (List.forall_mem_cons.2 ⟨(.inl ⟨Go.Proofs.Try.f31, Go.Proofs.Try.func31, C_judge_weak⟩), (List.forall_mem_cons.2 ⟨(.inl ⟨Go.Proofs.Try.f33, Go.Proofs.Try.func33, C_judge_compare⟩), (List.forall_mem_cons.2 ⟨(.inl ⟨Go.Proofs.Try.f35, Go.Proofs.Try.func35, C_cabotagelaw22_edges⟩), (List.forall_mem_cons.2 ⟨(.inl ⟨Go.Proofs.Try.f36, Go.Proofs.Try.func36, C_cabotageref22_Both⟩), (List.forall_mem_cons.2 ⟨(.inl ⟨Go.Proofs.Try.f37, Go.Proofs.Try.func37, C_judge_isState⟩), (List.forall_mem_cons.2 ⟨(.inl ⟨Go.Proofs.Try.f38, Go.Proofs.Try.func38, C_judge_apart⟩), (List.forall_mem_cons.2 ⟨(.inl ⟨Go.Proofs.Try.f39, Go.Proofs.Try.func39, C_judge_teller_size⟩), (List.forall_mem_cons.2 ⟨(.inl ⟨Go.Proofs.Try.f40, Go.Proofs.Try.func40, C_judge_teller_formula⟩), (List.forall_mem_cons.2 ⟨(.inl ⟨Go.Proofs.Try.f44, Go.Proofs.Try.func44, C_judge_both⟩), (List.forall_mem_cons.2 ⟨(.inl ⟨Go.Proofs.Try.f45, Go.Proofs.Try.func45, C_judge_alike⟩), (List.forall_mem_cons.2 ⟨(.inl ⟨Go.Proofs.Try.f52, Go.Proofs.Try.func52, C_judge_classes⟩), (List.forall_mem_cons.2 ⟨(.inl ⟨Go.Proofs.Try.f54, Go.Proofs.Try.func54, C_judge_steps⟩), (List.forall_mem_cons.2 ⟨(.inl ⟨Go.Proofs.Try.f55, Go.Proofs.Try.func55, C_slices_Contains_int_int_⟩), (List.forall_mem_cons.2 ⟨(.inl ⟨Go.Proofs.Try.f57, Go.Proofs.Try.func57, C_cmp_Compare_int_⟩), (List.forall_mem_cons.2 ⟨(.inl ⟨Go.Proofs.Try.f62, Go.Proofs.Try.func62, C_judge_silent⟩), (List.forall_mem_cons.2 ⟨(.inl ⟨Go.Proofs.Try.f63, Go.Proofs.Try.func63, C_cmp_Or_int_⟩), (List.forall_mem_cons.2 ⟨(.inl ⟨Go.Proofs.Try.f64, Go.Proofs.Try.func64, C_judge_rounds_first⟩), (List.forall_mem_cons.2 ⟨(.inl ⟨Go.Proofs.Try.f65, Go.Proofs.Try.func65, C_judge_leads⟩), (List.forall_mem_cons.2 ⟨(.inl ⟨Go.Proofs.Try.f68, Go.Proofs.Try.func68, C_slices_Clone_api_JudgeEdge_api_JudgeEdge_⟩), (List.forall_mem_cons.2 ⟨(.inl ⟨Go.Proofs.Try.f69, Go.Proofs.Try.func69, C_judge_steps_1⟩), (List.forall_mem_cons.2 ⟨(.inl ⟨Go.Proofs.Try.f70, Go.Proofs.Try.func70, C_slices_BinarySearchFunc_api_JudgeEdge_api_JudgeEdge_int_⟩), (List.forall_mem_cons.2 ⟨(.inl ⟨Go.Proofs.Try.f71, Go.Proofs.Try.func71, C_judge_steps_1_1⟩), (List.forall_mem_cons.2 ⟨(.inl ⟨Go.Proofs.Try.f72, Go.Proofs.Try.func72, C_slices_Index_int_int_⟩), (List.forall_mem_cons.2 ⟨(.inl ⟨Go.Proofs.Try.f75, Go.Proofs.Try.func75, C_cmp_isNaN_int_⟩), (List.forall_mem_cons.2 ⟨(.inl ⟨Go.Proofs.Try.f80, Go.Proofs.Try.func80, C_judge_rounds_told⟩), (List.forall_mem_cons.2 ⟨(.inl ⟨Go.Proofs.Try.f81, Go.Proofs.Try.func81, C_judge_leads_1⟩), (fun _ h => by cases h)⟩)⟩)⟩)⟩)⟩)⟩)⟩)⟩)⟩)⟩)⟩)⟩)⟩)⟩)⟩)⟩)⟩)⟩)⟩)⟩)⟩)⟩)⟩)⟩)⟩)⟩)⟩)⟩)⟩)⟩)⟩)⟩)⟩)⟩)⟩)
theorem hmix : Go.Proofs.Try.prog.follows .mixedOrders = true := by kernel_rfl
theorem okFs : ∀ g cf, lookF tabF g = some cf → FnOk Go.Proofs.Try.prog g cf := fun g cf h => by obtain ⟨p, hp, rfl, rfl⟩ := lookF_mem h; exact okF p hp
theorem knownOk : FnOk Go.Proofs.Try.prog n_cabotagelaw22_known (primF true) := by
  obtain ⟨k, h', he⟩ := E_of_isT tabs run
  exact prim_of hmix okFs Go.Proofs.Try.func16 C_cabotagelaw22_known he
end Go.Ideal.X
end
set_option maxRecDepth 100000
set_option maxHeartbeats 4000000
set_option linter.unusedVariables false
noncomputable section
namespace Go.Ideal.J
open Go Go.Ideal
theorem C_cabotagelaw22_JudgeHolds : compileFunc Go.Proofs.Try.prog Go.Proofs.Try.f7 = some (stripF f_cabotagelaw22_JudgeHolds) := by kernel_rfl
theorem C_judge_Weak : compileFunc Go.Proofs.Try.prog Go.Proofs.Try.f11 = some (stripF f_judge_Weak) := Go.Ideal.X.C_judge_Weak
theorem C_judge_Check : compileFunc Go.Proofs.Try.prog Go.Proofs.Try.f13 = some (stripF f_judge_Check) := Go.Ideal.X.C_judge_Check
theorem C_cabotageref22_Check : compileFunc Go.Proofs.Try.prog Go.Proofs.Try.f14 = some (stripF f_cabotageref22_Check) := by kernel_rfl
theorem C_cabotageref22_SameGraph : compileFunc Go.Proofs.Try.prog Go.Proofs.Try.f15 = some (stripF f_cabotageref22_SameGraph) := Go.Ideal.X.C_cabotageref22_SameGraph
theorem C_judge_Tells : compileFunc Go.Proofs.Try.prog Go.Proofs.Try.f17 = some (stripF f_judge_Tells) := Go.Ideal.X.C_judge_Tells
theorem C_cabotageref22_SameFormula : compileFunc Go.Proofs.Try.prog Go.Proofs.Try.f19 = some (stripF f_cabotageref22_SameFormula) := Go.Ideal.X.C_cabotageref22_SameFormula
theorem C_judge_Alike : compileFunc Go.Proofs.Try.prog Go.Proofs.Try.f20 = some (stripF f_judge_Alike) := Go.Ideal.X.C_judge_Alike
theorem C_judge_Holds : compileFunc Go.Proofs.Try.prog Go.Proofs.Try.f24 = some (stripF f_judge_Holds) := by kernel_rfl
theorem C_cabotageref22_Holds : compileFunc Go.Proofs.Try.prog Go.Proofs.Try.f25 = some (stripF f_cabotageref22_Holds) := by kernel_rfl
theorem C_judge_Classes : compileFunc Go.Proofs.Try.prog Go.Proofs.Try.f26 = some (stripF f_judge_Classes) := Go.Ideal.X.C_judge_Classes
theorem C_cabotageref03_SameInts : compileFunc Go.Proofs.Try.prog Go.Proofs.Try.f30 = some (stripF f_cabotageref03_SameInts) := Go.Ideal.X.C_cabotageref03_SameInts
theorem C_judge_weak : compileFunc Go.Proofs.Try.prog Go.Proofs.Try.f31 = some (stripF f_judge_weak) := Go.Ideal.X.C_judge_weak
theorem C_judge_compare : compileFunc Go.Proofs.Try.prog Go.Proofs.Try.f33 = some (stripF f_judge_compare) := Go.Ideal.X.C_judge_compare
theorem C_cabotageref22_less : compileFunc Go.Proofs.Try.prog Go.Proofs.Try.f34 = some (stripF f_cabotageref22_less) := by kernel_rfl
theorem C_cabotagelaw22_edges : compileFunc Go.Proofs.Try.prog Go.Proofs.Try.f35 = some (stripF f_cabotagelaw22_edges) := Go.Ideal.X.C_cabotagelaw22_edges
theorem C_cabotageref22_Both : compileFunc Go.Proofs.Try.prog Go.Proofs.Try.f36 = some (stripF f_cabotageref22_Both) := Go.Ideal.X.C_cabotageref22_Both
theorem C_judge_isState : compileFunc Go.Proofs.Try.prog Go.Proofs.Try.f37 = some (stripF f_judge_isState) := Go.Ideal.X.C_judge_isState
theorem C_judge_apart : compileFunc Go.Proofs.Try.prog Go.Proofs.Try.f38 = some (stripF f_judge_apart) := Go.Ideal.X.C_judge_apart
theorem C_judge_teller_size : compileFunc Go.Proofs.Try.prog Go.Proofs.Try.f39 = some (stripF f_judge_teller_size) := Go.Ideal.X.C_judge_teller_size
theorem C_judge_teller_formula : compileFunc Go.Proofs.Try.prog Go.Proofs.Try.f40 = some (stripF f_judge_teller_formula) := Go.Ideal.X.C_judge_teller_formula
theorem C_judge_both : compileFunc Go.Proofs.Try.prog Go.Proofs.Try.f44 = some (stripF f_judge_both) := Go.Ideal.X.C_judge_both
theorem C_judge_alike : compileFunc Go.Proofs.Try.prog Go.Proofs.Try.f45 = some (stripF f_judge_alike) := Go.Ideal.X.C_judge_alike
theorem C_judge_formed : compileFunc Go.Proofs.Try.prog Go.Proofs.Try.f48 = some (stripF f_judge_formed) := by kernel_rfl
theorem C_judge_holds : compileFunc Go.Proofs.Try.prog Go.Proofs.Try.f49 = some (stripF f_judge_holds) := by kernel_rfl
theorem C_cabotageref22_formula : compileFunc Go.Proofs.Try.prog Go.Proofs.Try.f50 = some (stripF f_cabotageref22_formula) := by kernel_rfl
theorem C_cabotageref22_holdsIn : compileFunc Go.Proofs.Try.prog Go.Proofs.Try.f51 = some (stripF f_cabotageref22_holdsIn) := by kernel_rfl
theorem C_judge_classes : compileFunc Go.Proofs.Try.prog Go.Proofs.Try.f52 = some (stripF f_judge_classes) := Go.Ideal.X.C_judge_classes
theorem C_judge_steps : compileFunc Go.Proofs.Try.prog Go.Proofs.Try.f54 = some (stripF f_judge_steps) := Go.Ideal.X.C_judge_steps
theorem C_slices_Contains_int_int_ : compileFunc Go.Proofs.Try.prog Go.Proofs.Try.f55 = some (stripF f_slices_Contains_int_int_) := Go.Ideal.X.C_slices_Contains_int_int_
theorem C_cmp_Compare_int_ : compileFunc Go.Proofs.Try.prog Go.Proofs.Try.f57 = some (stripF f_cmp_Compare_int_) := Go.Ideal.X.C_cmp_Compare_int_
theorem C_judge_silent : compileFunc Go.Proofs.Try.prog Go.Proofs.Try.f62 = some (stripF f_judge_silent) := Go.Ideal.X.C_judge_silent
theorem C_cmp_Or_int_ : compileFunc Go.Proofs.Try.prog Go.Proofs.Try.f63 = some (stripF f_cmp_Or_int_) := Go.Ideal.X.C_cmp_Or_int_
theorem C_judge_rounds_first : compileFunc Go.Proofs.Try.prog Go.Proofs.Try.f64 = some (stripF f_judge_rounds_first) := Go.Ideal.X.C_judge_rounds_first
theorem C_judge_leads : compileFunc Go.Proofs.Try.prog Go.Proofs.Try.f65 = some (stripF f_judge_leads) := Go.Ideal.X.C_judge_leads
theorem C_slices_Clone_api_JudgeEdge_api_JudgeEdge_ : compileFunc Go.Proofs.Try.prog Go.Proofs.Try.f68 = some (stripF f_slices_Clone_api_JudgeEdge_api_JudgeEdge_) := Go.Ideal.X.C_slices_Clone_api_JudgeEdge_api_JudgeEdge_
theorem C_judge_steps_1 : compileFunc Go.Proofs.Try.prog Go.Proofs.Try.f69 = some (stripF f_judge_steps_1) := Go.Ideal.X.C_judge_steps_1
theorem C_slices_BinarySearchFunc_api_JudgeEdge_api_JudgeEdge_int_ : compileFunc Go.Proofs.Try.prog Go.Proofs.Try.f70 = some (stripF f_slices_BinarySearchFunc_api_JudgeEdge_api_JudgeEdge_int_) := Go.Ideal.X.C_slices_BinarySearchFunc_api_JudgeEdge_api_JudgeEdge_int_
theorem C_judge_steps_1_1 : compileFunc Go.Proofs.Try.prog Go.Proofs.Try.f71 = some (stripF f_judge_steps_1_1) := Go.Ideal.X.C_judge_steps_1_1
theorem C_slices_Index_int_int_ : compileFunc Go.Proofs.Try.prog Go.Proofs.Try.f72 = some (stripF f_slices_Index_int_int_) := Go.Ideal.X.C_slices_Index_int_int_
theorem C_cmp_isNaN_int_ : compileFunc Go.Proofs.Try.prog Go.Proofs.Try.f75 = some (stripF f_cmp_isNaN_int_) := Go.Ideal.X.C_cmp_isNaN_int_
theorem C_judge_rounds_told : compileFunc Go.Proofs.Try.prog Go.Proofs.Try.f80 = some (stripF f_judge_rounds_told) := Go.Ideal.X.C_judge_rounds_told
theorem C_judge_leads_1 : compileFunc Go.Proofs.Try.prog Go.Proofs.Try.f81 = some (stripF f_judge_leads_1) := Go.Ideal.X.C_judge_leads_1
theorem okF (hk : FnOk Go.Proofs.Try.prog n_cabotagelaw22_known (primF true)) : ∀ p ∈ tabF, FnOk Go.Proofs.Try.prog p.1 p.2 :=
  (List.forall_mem_cons.2 ⟨(.inl ⟨Go.Proofs.Try.f7, Go.Proofs.Try.func7, C_cabotagelaw22_JudgeHolds⟩), (List.forall_mem_cons.2 ⟨(.inl ⟨Go.Proofs.Try.f11, Go.Proofs.Try.func11, C_judge_Weak⟩), (List.forall_mem_cons.2 ⟨(.inl ⟨Go.Proofs.Try.f13, Go.Proofs.Try.func13, C_judge_Check⟩), (List.forall_mem_cons.2 ⟨(.inl ⟨Go.Proofs.Try.f14, Go.Proofs.Try.func14, C_cabotageref22_Check⟩), (List.forall_mem_cons.2 ⟨(.inl ⟨Go.Proofs.Try.f15, Go.Proofs.Try.func15, C_cabotageref22_SameGraph⟩), (List.forall_mem_cons.2 ⟨(hk), (List.forall_mem_cons.2 ⟨(.inl ⟨Go.Proofs.Try.f17, Go.Proofs.Try.func17, C_judge_Tells⟩), (List.forall_mem_cons.2 ⟨(.inl ⟨Go.Proofs.Try.f19, Go.Proofs.Try.func19, C_cabotageref22_SameFormula⟩), (List.forall_mem_cons.2 ⟨(.inl ⟨Go.Proofs.Try.f20, Go.Proofs.Try.func20, C_judge_Alike⟩), (List.forall_mem_cons.2 ⟨(.inl ⟨Go.Proofs.Try.f24, Go.Proofs.Try.func24, C_judge_Holds⟩), (List.forall_mem_cons.2 ⟨(.inl ⟨Go.Proofs.Try.f25, Go.Proofs.Try.func25, C_cabotageref22_Holds⟩), (List.forall_mem_cons.2 ⟨(.inl ⟨Go.Proofs.Try.f26, Go.Proofs.Try.func26, C_judge_Classes⟩), (List.forall_mem_cons.2 ⟨(.inl ⟨Go.Proofs.Try.f30, Go.Proofs.Try.func30, C_cabotageref03_SameInts⟩), (List.forall_mem_cons.2 ⟨(.inl ⟨Go.Proofs.Try.f31, Go.Proofs.Try.func31, C_judge_weak⟩), (List.forall_mem_cons.2 ⟨(.inl ⟨Go.Proofs.Try.f33, Go.Proofs.Try.func33, C_judge_compare⟩), (List.forall_mem_cons.2 ⟨(.inl ⟨Go.Proofs.Try.f34, Go.Proofs.Try.func34, C_cabotageref22_less⟩), (List.forall_mem_cons.2 ⟨(.inl ⟨Go.Proofs.Try.f35, Go.Proofs.Try.func35, C_cabotagelaw22_edges⟩), (List.forall_mem_cons.2 ⟨(.inl ⟨Go.Proofs.Try.f36, Go.Proofs.Try.func36, C_cabotageref22_Both⟩), (List.forall_mem_cons.2 ⟨(.inl ⟨Go.Proofs.Try.f37, Go.Proofs.Try.func37, C_judge_isState⟩), (List.forall_mem_cons.2 ⟨(.inl ⟨Go.Proofs.Try.f38, Go.Proofs.Try.func38, C_judge_apart⟩), (List.forall_mem_cons.2 ⟨(.inl ⟨Go.Proofs.Try.f39, Go.Proofs.Try.func39, C_judge_teller_size⟩), (List.forall_mem_cons.2 ⟨(.inl ⟨Go.Proofs.Try.f40, Go.Proofs.Try.func40, C_judge_teller_formula⟩), (List.forall_mem_cons.2 ⟨(.inl ⟨Go.Proofs.Try.f44, Go.Proofs.Try.func44, C_judge_both⟩), (List.forall_mem_cons.2 ⟨(.inl ⟨Go.Proofs.Try.f45, Go.Proofs.Try.func45, C_judge_alike⟩), (List.forall_mem_cons.2 ⟨(.inl ⟨Go.Proofs.Try.f48, Go.Proofs.Try.func48, C_judge_formed⟩), (List.forall_mem_cons.2 ⟨(.inl ⟨Go.Proofs.Try.f49, Go.Proofs.Try.func49, C_judge_holds⟩), (List.forall_mem_cons.2 ⟨(.inl ⟨Go.Proofs.Try.f50, Go.Proofs.Try.func50, C_cabotageref22_formula⟩), (List.forall_mem_cons.2 ⟨(.inl ⟨Go.Proofs.Try.f51, Go.Proofs.Try.func51, C_cabotageref22_holdsIn⟩), (List.forall_mem_cons.2 ⟨(.inl ⟨Go.Proofs.Try.f52, Go.Proofs.Try.func52, C_judge_classes⟩), (List.forall_mem_cons.2 ⟨(.inl ⟨Go.Proofs.Try.f54, Go.Proofs.Try.func54, C_judge_steps⟩), (List.forall_mem_cons.2 ⟨(.inl ⟨Go.Proofs.Try.f55, Go.Proofs.Try.func55, C_slices_Contains_int_int_⟩), (List.forall_mem_cons.2 ⟨(.inl ⟨Go.Proofs.Try.f57, Go.Proofs.Try.func57, C_cmp_Compare_int_⟩), (List.forall_mem_cons.2 ⟨(.inl ⟨Go.Proofs.Try.f62, Go.Proofs.Try.func62, C_judge_silent⟩), (List.forall_mem_cons.2 ⟨(.inl ⟨Go.Proofs.Try.f63, Go.Proofs.Try.func63, C_cmp_Or_int_⟩), (List.forall_mem_cons.2 ⟨(.inl ⟨Go.Proofs.Try.f64, Go.Proofs.Try.func64, C_judge_rounds_first⟩), (List.forall_mem_cons.2 ⟨(.inl ⟨Go.Proofs.Try.f65, Go.Proofs.Try.func65, C_judge_leads⟩), (List.forall_mem_cons.2 ⟨(.inl ⟨Go.Proofs.Try.f68, Go.Proofs.Try.func68, C_slices_Clone_api_JudgeEdge_api_JudgeEdge_⟩), (List.forall_mem_cons.2 ⟨(.inl ⟨Go.Proofs.Try.f69, Go.Proofs.Try.func69, C_judge_steps_1⟩), (List.forall_mem_cons.2 ⟨(.inl ⟨Go.Proofs.Try.f70, Go.Proofs.Try.func70, C_slices_BinarySearchFunc_api_JudgeEdge_api_JudgeEdge_int_⟩), (List.forall_mem_cons.2 ⟨(.inl ⟨Go.Proofs.Try.f71, Go.Proofs.Try.func71, C_judge_steps_1_1⟩), (List.forall_mem_cons.2 ⟨(.inl ⟨Go.Proofs.Try.f72, Go.Proofs.Try.func72, C_slices_Index_int_int_⟩), (List.forall_mem_cons.2 ⟨(.inl ⟨Go.Proofs.Try.f75, Go.Proofs.Try.func75, C_cmp_isNaN_int_⟩), (List.forall_mem_cons.2 ⟨(.inl ⟨Go.Proofs.Try.f80, Go.Proofs.Try.func80, C_judge_rounds_told⟩), (List.forall_mem_cons.2 ⟨(.inl ⟨Go.Proofs.Try.f81, Go.Proofs.Try.func81, C_judge_leads_1⟩), (fun _ h => by cases h)⟩)⟩)⟩)⟩)⟩)⟩)⟩)⟩)⟩)⟩)⟩)⟩)⟩)⟩)⟩)⟩)⟩)⟩)⟩)⟩)⟩)⟩)⟩)⟩)⟩)⟩)⟩)⟩)⟩)⟩)⟩)⟩)⟩)⟩)⟩)⟩)⟩)⟩)⟩)⟩)⟩)⟩)⟩)⟩)

theorem okFs : ∀ g cf, F g = some cf → FnOk Go.Proofs.Try.prog g cf := fun g cf h => by obtain ⟨p, hp, rfl, rfl⟩ := lookF_mem h; exact okF Go.Ideal.X.knownOk p hp
end Go.Ideal.J
end
