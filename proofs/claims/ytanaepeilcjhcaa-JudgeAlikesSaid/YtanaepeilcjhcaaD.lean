/- A part of the proof: the ideal machine, and what the functions of the program answer over it. -/
import Derived.Test.YtanaepeilcjhcaaProg
import Derived.Test.YtanaepeilcjhcaaC
set_option linter.unusedSimpArgs false
set_option linter.unusedVariables false
noncomputable section
namespace Go.Ideal.X
open Go Go.Ideal Go.Ideal.J
set_option maxRecDepth 100000
def T_judge_Weak (X : Rn) (args : List Value) (h : H) : Option Out :=
    uc args fun t0 args => un args (k2 (some (zh h (zi t0))) fun t1 h1 =>
    k2 (some (zh h1 [(.int .i64 0), (.int .i64 0), (.slice none 0 0)])) fun t2 h2 =>
    k2 (some ((.int .i64 0), h2)) fun t3 h3 =>
    k2 (zj 3 t1 h3) fun t5 h4 =>
    k2 (X.call (.func (.func n_o) #[] #[]) [t5] h4) fun t6 h5 =>
    k2 (vBin .neq .other t6 (.int .i64 0) h5) fun t7 h6 =>
    br t7
      (k2 ((zn [(.int .i64 0), (.int .i64 0), (.slice none 0 0)] []).map fun c => (Value.agg ⟨c⟩, h6)) fun t8 h7 =>
    k2 (zq 3 t2 t8 h7) fun _ h8 =>
    k2 (some ((.int .i64 2), h8)) fun t3 h9 =>
    (vRes (some 3) t2 h9).bind fun r0 => some (.val (zg [r0, t3]) h9))
      (k2 (zj 3 t1 h6) fun t9 h10 =>
    k2 (X.call (.func (.func n_e) #[] #[]) [t9] h10) fun t10 h11 =>
    k2 (some (zh h11 [(.int .i64 0), (.int .i64 0), (.slice none 0 0)])) fun t4 h12 =>
    k2 (zq 3 t4 t10 h12) fun _ h13 =>
    k2 (zd 2 t4 h13) fun t11 h14 =>
    k2 (zc t11 h14) fun t12 h15 =>
    k2 (bltV h15 .len [t12]) fun t13 h16 =>
    k2 (vBin .gtr .other t13 (.int .i64 400) h16) fun t14 h17 =>
    br t14
      (k2 ((zn [(.int .i64 0), (.int .i64 0), (.slice none 0 0)] []).map fun c => (Value.agg ⟨c⟩, h17)) fun t15 h18 =>
    k2 (zq 3 t2 t15 h18) fun _ h19 =>
    k2 (some ((.int .i64 3), h19)) fun t3 h20 =>
    (vRes (some 3) t2 h20).bind fun r0 => some (.val (zg [r0, t3]) h20))
      (k2 (zj 3 t4 h17) fun t16 h21 =>
    k2 (zq 3 t2 t16 h21) fun _ h22 =>
    k2 (some ((.int .i64 0), h22)) fun t3 h23 =>
    (vRes (some 3) t2 h23).bind fun r0 => some (.val (zg [r0, t3]) h23))))
def x_S : Rn → List Value → H → Option Out := T_judge_Weak
theorem e_S : ((fun X args h => zl X 1 f_S args h) : Rn → List Value → H → Option Out) = x_S := by kernel_rfl
def ziy (X : Rn) (h : H) : Option Out :=
    k2 (some ((.int .i64 0), h)) fun t2 h1 =>
    some (.val (zg [t2]) h1)
def x_o_0 : Rn → H → Option Out := ziy
theorem e_o_0 : ((fun X h => sh X zgn (KZ_o_0 X) (setL [] []) h) : Rn → H → Option Out) = x_o_0 := by kernel_rfl
def zeF (i_o_0 : Rn → H → Option Out) (X : Rn) (z_1 : Z) (t1 t30 t31 t32 : Value) (h : H) : Option Out :=
    k2 (vBin .lss .other t32 t31 h) fun t33 h1 =>
    br t33
      (k2 (some (t32, h1)) fun t34 h2 =>
    k2 (zr 3 t30 t32 h2) fun t35 h3 =>
    k2 (zj 3 t35 h3) fun t36 h4 =>
    k2 (some (zh h4 [(.int .i64 0), (.int .i64 0), (.int .i64 0)])) fun t4 h5 =>
    k2 (some (t34, h5)) fun t3 h6 =>
    k2 (zq 3 t4 t36 h6) fun _ h7 =>
    k2 (zd 0 t4 h7) fun t37 h8 =>
    k2 (rdF (fun b => zc t37 b) 0 h8 [(0, h7)]) fun t38 h9 =>
    k2 (zd 1 t4 h9) fun t39 h10 =>
    k2 (rdF (fun b => zc t39 b) 0 h10 [(0, h7)]) fun t40 h11 =>
    k2 (zd 2 t4 h11) fun t41 h12 =>
    k2 (rdF (fun b => zc t41 b) 0 h12 [(0, h7)]) fun t42 h13 =>
    k2 (bltV h13 .min [t38, t40, t42]) fun t43 h14 =>
    k2 (vBin .lss .other t43 (.int .i64 0) h14) fun t44 h15 =>
    k2 (some (t44, h15)) fun t45 h16 =>
    k2 (gd t45 false h16 (zd 0 t4 h16)) fun t46 h17 =>
    k2 (gd t45 false h17 (rdF (fun b => zc t46 b) 0 h17 [(0, h7)])) fun t47 h18 =>
    k2 (gd t45 false h18 (zd 1 t4 h18)) fun t48 h19 =>
    k2 (gd t45 false h19 (rdF (fun b => zc t48 b) 0 h19 [(0, h7)])) fun t49 h20 =>
    k2 (gd t45 false h20 (bltV h20 .max [t47, t49])) fun t50 h21 =>
    k2 (gd t45 false h21 (zd 0 t1 h21)) fun t51 h22 =>
    k2 (gd t45 false h22 (rdF (fun b => zc t51 b) 0 h22 [(0, h7)])) fun t52 h23 =>
    k2 (gd t45 false h23 (vBin .geq .other t50 t52 h23)) fun t53 h24 =>
    k2 (zD t45 (.bool true) t53 h24) fun t54 h25 =>
    k2 (some (t54, h25)) fun t55 h26 =>
    k2 (gd t55 false h26 (zd 2 t4 h26)) fun t56 h27 =>
    k2 (gd t55 false h27 (rdF (fun b => zc t56 b) 0 h27 [(0, h7)])) fun t57 h28 =>
    k2 (gd t55 false h28 (zd 1 t1 h28)) fun t58 h29 =>
    k2 (gd t55 false h29 (rdF (fun b => zc t58 b) 0 h29 [(0, h7)])) fun t59 h30 =>
    k2 (gd t55 false h30 (vBin .geq .other t57 t59 h30)) fun t60 h31 =>
    k2 (zD t55 (.bool true) t60 h31) fun t61 h32 =>
    k2 (some (t61, h32)) fun t62 h33 =>
    k2 (gd t62 false h33 (some (t3, h33))) fun t63 h34 =>
    k2 (gd t62 false h34 (vBin .gtr .other t63 (.int .i64 0) h34)) fun t64 h35 =>
    k2 (gd t62 false h35 (some (t64, h35))) fun t65 h36 =>
    k2 (gd t65 true h36 (zd 2 t1 h36)) fun t66 h37 =>
    k2 (gd t65 true h37 (rdF (fun b => zc t66 b) 0 h37 [(0, h7)])) fun t67 h38 =>
    k2 (gd t65 true h38 (some (t3, h38))) fun t68 h39 =>
    k2 (gd t65 true h39 (vBin .sub .other t68 (.int .i64 1) h39)) fun t69 h40 =>
    k2 (gd t65 true h40 (zr 3 t67 t69 h40)) fun t70 h41 =>
    k2 (gd t65 true h41 (rdF (fun b => zj 3 t70 b) 0 h41 [(0, h7)])) fun t71 h42 =>
    k2 (gd t65 true h42 (rdF (fun b => zj 3 t4 b) 0 h42 [(0, h7)])) fun t72 h43 =>
    k2 (gd t65 true h43 (X.call (.func (.func n_J) #[] #[]) [t71, t72] h43)) fun t73 h44 =>
    k2 (gd t65 true h44 (vBin .geq .other t73 (.int .i64 0) h44)) fun t74 h45 =>
    k2 (gd t62 false h45 (zD t65 t74 (.bool false) h45)) fun t75 h46 =>
    k2 (zD t62 (.bool true) t75 h46) fun t76 h47 =>
    br t76
      (k2 (some ((.int .i64 2), h47)) fun t2 h48 =>
    some (.val (zg [t2]) h48))
      (k2 (vBin .add .other t32 (.int .i64 1) h47) fun t77 h49 =>
    k2 (some (t77, h49)) fun t32_50 h51 =>
    z_1 [t1, t30, t31, t32_50] h51))
      (i_o_0 X h1)
def x_o_1 : Rn → Z → Value → Value → Value → Value → H → Option Out := zeF x_o_0
theorem e_o_1 : ((fun X z_1 t1 t30 t31 t32 h => sh X zfS (KZ_o_1 X z_1) (setL [p1, p30, p31, p32] [t1, t30, t31, t32]) h) : Rn → Z → Value → Value → Value → Value → H → Option Out) = x_o_1 := (show ((fun X z_1 t1 t30 t31 t32 h => sh X zfS (KZ_o_1 X z_1) (setL [p1, p30, p31, p32] [t1, t30, t31, t32]) h) : Rn → Z → Value → Value → Value → Value → H → Option Out) = zeF (fun X h => sh X zgn (KZ_o_0 X) (setL [] []) h) by kernel_rfl).trans (by rw [e_o_0]; rfl)
def zfY (i_o_1 : Rn → Z → Value → Value → Value → Value → H → Option Out) (X : Rn) (args : List Value) (h : H) : Option Out :=
    uc args fun t0 args => un args (k2 (some (zh h (zi t0))) fun t1 h1 =>
    k2 (some ((.int .i64 0), h1)) fun t2 h2 =>
    k2 (zd 0 t1 h2) fun t5 h3 =>
    k2 (zc t5 h3) fun t6 h4 =>
    k2 (vBin .lss .other t6 (.int .i64 1) h4) fun t7 h5 =>
    k2 (some (t7, h5)) fun t8 h6 =>
    k2 (gd t8 false h6 (zd 0 t1 h6)) fun t9 h7 =>
    k2 (gd t8 false h7 (zc t9 h7)) fun t10 h8 =>
    k2 (gd t8 false h8 (vBin .gtr .other t10 (.int .i64 60) h8)) fun t11 h9 =>
    k2 (zD t8 (.bool true) t11 h9) fun t12 h10 =>
    k2 (some (t12, h10)) fun t13 h11 =>
    k2 (gd t13 false h11 (zd 1 t1 h11)) fun t14 h12 =>
    k2 (gd t13 false h12 (zc t14 h12)) fun t15 h13 =>
    k2 (gd t13 false h13 (vBin .lss .other t15 (.int .i64 1) h13)) fun t16 h14 =>
    k2 (zD t13 (.bool true) t16 h14) fun t17 h15 =>
    k2 (some (t17, h15)) fun t18 h16 =>
    k2 (gd t18 false h16 (zd 1 t1 h16)) fun t19 h17 =>
    k2 (gd t18 false h17 (zc t19 h17)) fun t20 h18 =>
    k2 (gd t18 false h18 (vBin .gtr .other t20 (.int .i64 41) h18)) fun t21 h19 =>
    k2 (zD t18 (.bool true) t21 h19) fun t22 h20 =>
    k2 (some (t22, h20)) fun t23 h21 =>
    k2 (gd t23 false h21 (zd 2 t1 h21)) fun t24 h22 =>
    k2 (gd t23 false h22 (zc t24 h22)) fun t25 h23 =>
    k2 (gd t23 false h23 (bltV h23 .len [t25])) fun t26 h24 =>
    k2 (gd t23 false h24 (vBin .gtr .other t26 (.int .i64 400) h24)) fun t27 h25 =>
    k2 (zD t23 (.bool true) t27 h25) fun t28 h26 =>
    br t28
      (k2 (some ((.int .i64 2), h26)) fun t2 h27 =>
    some (.val (zg [t2]) h27))
      (k2 (zd 2 t1 h26) fun t29 h28 =>
    k2 (zc t29 h28) fun t30 h29 =>
    k2 (bltV h29 .len [t30]) fun t31 h30 =>
    k2 (some ((.int .i64 0), h30)) fun t32 h31 =>
    X.loop [p1, p30, p31, p32] zfS (kBlk 0 (kSeq X zgn [] (KZ_o_0 X))) (fun z_1 vs h => uc vs fun t1 vs => uc vs fun t30 vs => uc vs fun t31 vs => uc vs fun t32 vs => un vs (i_o_1 X z_1 t1 t30 t31 t32 h)) [t1, t30, t31, t32] h31))
def x_o : Rn → List Value → H → Option Out := zfY x_o_1
theorem e_o : ((fun X args h => zl X 1 f_o args h) : Rn → List Value → H → Option Out) = x_o := (show ((fun X args h => zl X 1 f_o args h) : Rn → List Value → H → Option Out) = zfY (fun X z_1 t1 t30 t31 t32 h => sh X zfS (KZ_o_1 X z_1) (setL [p1, p30, p31, p32] [t1, t30, t31, t32]) h) by kernel_rfl).trans (by rw [e_o_1]; rfl)
def zcU (X : Rn) (h : H) : Option Out :=
    k2 (some ((.bool true), h)) fun t4 h1 =>
    some (.val (zg [t4]) h1)
def x_r_0 : Rn → H → Option Out := zcU
theorem e_r_0 : ((fun X h => sh X c_r_0 (KZ_r_0 X) (setL [] []) h) : Rn → H → Option Out) = x_r_0 := by kernel_rfl
def zbz (i_r_0 : Rn → H → Option Out) (X : Rn) (z_1 : Z) (t2 t3 t5 : Value) (h : H) : Option Out :=
    k2 (some (t5, h)) fun t27 h1 =>
    k2 (zd 2 t2 h1) fun t28 h2 =>
    k2 (zc t28 h2) fun t29 h3 =>
    k2 (bltV h3 .len [t29]) fun t30 h4 =>
    k2 (vBin .lss .other t27 t30 h4) fun t31 h5 =>
    br t31
      (k2 (zd 2 t2 h5) fun t34 h6 =>
    k2 (rdF (fun b => zc t34 b) 0 h6 [(0, h5)]) fun t35 h7 =>
    k2 (some (t5, h7)) fun t36 h8 =>
    k2 (zr 3 t35 t36 h8) fun t37 h9 =>
    k2 (rdF (fun b => zj 3 t37 b) 0 h9 [(0, h5)]) fun t38 h10 =>
    k2 (zd 2 t3 h10) fun t39 h11 =>
    k2 (rdF (fun b => zc t39 b) 0 h11 [(0, h5)]) fun t40 h12 =>
    k2 (some (t5, h12)) fun t41 h13 =>
    k2 (zr 3 t40 t41 h13) fun t42 h14 =>
    k2 (rdF (fun b => zj 3 t42 b) 0 h14 [(0, h5)]) fun t43 h15 =>
    k2 (vBin .neq (.leaves [0, 1, 2]) t38 t43 h15) fun t44 h16 =>
    br t44
      (k2 (some ((.bool false), h16)) fun t4 h17 =>
    some (.val (zg [t4]) h17))
      (k2 (some (t5, h16)) fun t32 h18 =>
    k2 (vBin .add .other t32 (.int .i64 1) h18) fun t33 h19 =>
    k2 (some (t33, h19)) fun t5_20 h21 =>
    z_1 [t2, t3, t5_20] h21))
      (i_r_0 X h5)
def x_r_1 : Rn → Z → Value → Value → Value → H → Option Out := zbz x_r_0
theorem e_r_1 : ((fun X z_1 t2 t3 t5 h => sh X c_r_1 (KZ_r_1 X z_1) (setL [p2, p3, p5] [t2, t3, t5]) h) : Rn → Z → Value → Value → Value → H → Option Out) = x_r_1 := (show ((fun X z_1 t2 t3 t5 h => sh X c_r_1 (KZ_r_1 X z_1) (setL [p2, p3, p5] [t2, t3, t5]) h) : Rn → Z → Value → Value → Value → H → Option Out) = zbz (fun X h => sh X c_r_0 (KZ_r_0 X) (setL [] []) h) by kernel_rfl).trans (by rw [e_r_0]; rfl)
def zbJ (i_r_1 : Rn → Z → Value → Value → Value → H → Option Out) (X : Rn) (args : List Value) (h : H) : Option Out :=
    uc args fun t0 args => uc args fun t1 args => un args (k2 (some (zh h (zi t0))) fun t2 h1 =>
    k2 (some (zh h1 (zi t1))) fun t3 h2 =>
    k2 (some ((.bool false), h2)) fun t4 h3 =>
    k2 (zd 0 t2 h3) fun t6 h4 =>
    k2 (zc t6 h4) fun t7 h5 =>
    k2 (zd 0 t3 h5) fun t8 h6 =>
    k2 (zc t8 h6) fun t9 h7 =>
    k2 (vBin .neq .other t7 t9 h7) fun t10 h8 =>
    k2 (some (t10, h8)) fun t11 h9 =>
    k2 (gd t11 false h9 (zd 1 t2 h9)) fun t12 h10 =>
    k2 (gd t11 false h10 (zc t12 h10)) fun t13 h11 =>
    k2 (gd t11 false h11 (zd 1 t3 h11)) fun t14 h12 =>
    k2 (gd t11 false h12 (zc t14 h12)) fun t15 h13 =>
    k2 (gd t11 false h13 (vBin .neq .other t13 t15 h13)) fun t16 h14 =>
    k2 (zD t11 (.bool true) t16 h14) fun t17 h15 =>
    k2 (some (t17, h15)) fun t18 h16 =>
    k2 (gd t18 false h16 (zd 2 t2 h16)) fun t19 h17 =>
    k2 (gd t18 false h17 (zc t19 h17)) fun t20 h18 =>
    k2 (gd t18 false h18 (bltV h18 .len [t20])) fun t21 h19 =>
    k2 (gd t18 false h19 (zd 2 t3 h19)) fun t22 h20 =>
    k2 (gd t18 false h20 (zc t22 h20)) fun t23 h21 =>
    k2 (gd t18 false h21 (bltV h21 .len [t23])) fun t24 h22 =>
    k2 (gd t18 false h22 (vBin .neq .other t21 t24 h22)) fun t25 h23 =>
    k2 (zD t18 (.bool true) t25 h23) fun t26 h24 =>
    br t26
      (k2 (some ((.bool false), h24)) fun t4 h25 =>
    some (.val (zg [t4]) h25))
      (k2 (some ((.int .i64 0), h24)) fun t5 h26 =>
    X.loop [p2, p3, p5] c_r_1 (kBlk 0 (kSeq X c_r_0 [] (KZ_r_0 X))) (fun z_1 vs h => uc vs fun t2 vs => uc vs fun t3 vs => uc vs fun t5 vs => un vs (i_r_1 X z_1 t2 t3 t5 h)) [t2, t3, t5] h26))
def x_r : Rn → List Value → H → Option Out := zbJ x_r_1
theorem e_r : ((fun X args h => zl X 2 f_r args h) : Rn → List Value → H → Option Out) = x_r := (show ((fun X args h => zl X 2 f_r args h) : Rn → List Value → H → Option Out) = zbJ (fun X z_1 t2 t3 t5 h => sh X c_r_1 (KZ_r_1 X z_1) (setL [p2, p3, p5] [t2, t3, t5]) h) by kernel_rfl).trans (by rw [e_r_1]; rfl)
def zeH (X : Rn) (args : List Value) (h : H) : Option Out :=
    un args (k2 (some ((.bool false), h)) fun t0 h1 =>
    k2 ((zn [(.int .i64 0), (.int .i64 0), (.int .i64 0)] [(0, 1, (.int .i64 0)), (1, 1, (.int .i64 1)), (2, 1, (.int .i64 1))]).map fun c => (Value.agg ⟨c⟩, h1)) fun t17 h2 =>
    k2 ((zn [(.int .i64 0), (.int .i64 0), (.int .i64 0)] [(0, 1, (.int .i64 1)), (1, 1, (.int .i64 2)), (2, 1, (.int .i64 1))]).map fun c => (Value.agg ⟨c⟩, h2)) fun t18 h3 =>
    k2 ((zn [(.int .i64 0), (.int .i64 0), (.int .i64 0)] [(0, 1, (.int .i64 1)), (1, 1, (.int .i64 3)), (2, 1, (.int .i64 2))]).map fun c => (Value.agg ⟨c⟩, h3)) fun t19 h4 =>
    k2 (zR 3 (zn (zo [(.int .i64 0), (.int .i64 0), (.int .i64 0)] 3) [(0 * 3, 3, t17), (1 * 3, 3, t18), (2 * 3, 3, t19)]) h4) fun t20 h5 =>
    k2 (X.call (.func (.func n_w) #[] #[]) [t20] h5) fun t21 h6 =>
    k2 ((zn [(.int .i64 0), (.int .i64 0), (.slice none 0 0)] [(0, 1, (.int .i64 4)), (1, 1, (.int .i64 3)), (2, 1, t21)]).map fun c => (Value.agg ⟨c⟩, h6)) fun t22 h7 =>
    k2 (some (zh h7 [(.int .i64 0), (.int .i64 0), (.slice none 0 0)])) fun t1 h8 =>
    k2 (zq 3 t1 t22 h8) fun _ h9 =>
    k2 ((zn [(.int .i64 0), (.int .i64 0), (.int .i64 0)] [(0, 1, (.int .i64 0)), (1, 1, (.int .i64 1)), (2, 1, (.int .i64 1))]).map fun c => (Value.agg ⟨c⟩, h9)) fun t23 h10 =>
    k2 ((zn [(.int .i64 0), (.int .i64 0), (.int .i64 0)] [(0, 1, (.int .i64 0)), (1, 1, (.int .i64 2)), (2, 1, (.int .i64 1))]).map fun c => (Value.agg ⟨c⟩, h10)) fun t24 h11 =>
    k2 ((zn [(.int .i64 0), (.int .i64 0), (.int .i64 0)] [(0, 1, (.int .i64 1)), (1, 1, (.int .i64 3)), (2, 1, (.int .i64 1))]).map fun c => (Value.agg ⟨c⟩, h11)) fun t25 h12 =>
    k2 ((zn [(.int .i64 0), (.int .i64 0), (.int .i64 0)] [(0, 1, (.int .i64 2)), (1, 1, (.int .i64 4)), (2, 1, (.int .i64 2))]).map fun c => (Value.agg ⟨c⟩, h12)) fun t26 h13 =>
    k2 (zR 4 (zn (zo [(.int .i64 0), (.int .i64 0), (.int .i64 0)] 4) [(0 * 3, 3, t23), (1 * 3, 3, t24), (2 * 3, 3, t25), (3 * 3, 3, t26)]) h13) fun t27 h14 =>
    k2 (X.call (.func (.func n_w) #[] #[]) [t27] h14) fun t28 h15 =>
    k2 ((zn [(.int .i64 0), (.int .i64 0), (.slice none 0 0)] [(0, 1, (.int .i64 5)), (1, 1, (.int .i64 3)), (2, 1, t28)]).map fun c => (Value.agg ⟨c⟩, h15)) fun t29 h16 =>
    k2 (some (zh h16 [(.int .i64 0), (.int .i64 0), (.slice none 0 0)])) fun t2 h17 =>
    k2 (zq 3 t2 t29 h17) fun _ h18 =>
    k2 (zj 3 t1 h18) fun t31 h19 =>
    k2 (X.call (.func (.func n_Q) #[] #[]) [t31] h19) fun t32 h20 =>
    k2 (some (t32, h20)) fun t30 h21 =>
    k2 (zm 0 t30 h21) fun t33 h22 =>
    k2 (zm 1 t30 h22) fun t34 h23 =>
    k2 (some (t33, h23)) fun t3 h24 =>
    k2 (some (t34, h24)) fun t4 h25 =>
    k2 (zj 3 t2 h25) fun t36 h26 =>
    k2 (X.call (.func (.func n_Q) #[] #[]) [t36] h26) fun t37 h27 =>
    k2 (some (t37, h27)) fun t35 h28 =>
    k2 (zm 0 t35 h28) fun t38 h29 =>
    k2 (zm 1 t35 h29) fun t39 h30 =>
    k2 (some (t38, h30)) fun t5 h31 =>
    k2 (some (t39, h31)) fun t6 h32 =>
    k2 (zj 3 t1 h32) fun t41 h33 =>
    k2 (zj 3 t2 h33) fun t42 h34 =>
    k2 (X.call (.func (.func n_L) #[] #[]) [t41, t42] h34) fun t43 h35 =>
    k2 (some (t43, h35)) fun t40 h36 =>
    k2 (zm 0 t40 h36) fun t44 h37 =>
    k2 (zm 1 t40 h37) fun t45 h38 =>
    k2 (some (t44, h38)) fun t7 h39 =>
    k2 (some (t45, h39)) fun t8 h40 =>
    k2 (zj 3 t1 h40) fun t47 h41 =>
    k2 (zj 3 t2 h41) fun t48 h42 =>
    k2 (X.call (.func (.func n_h) #[] #[]) [t47, t48] h42) fun t49 h43 =>
    k2 (X.call (.func (.func n_R) #[] #[]) [t49, (.int .i64 0), (.int .i64 4)] h43) fun t50 h44 =>
    k2 (some (t50, h44)) fun t46 h45 =>
    k2 (zm 0 t46 h45) fun t51 h46 =>
    k2 (zm 1 t46 h46) fun t52 h47 =>
    k2 (some (zh h47 [(.int .i64 0), (.int .i64 0), (.slice none 0 0)])) fun t9 h48 =>
    k2 (zq 3 t9 t51 h48) fun _ h49 =>
    k2 (some (t52, h49)) fun t10 h50 =>
    k2 ((zn [(.int .i64 0), (.int .i64 0), (.int .i64 0)] [(0, 1, (.int .i64 0)), (1, 1, (.int .i64 1)), (2, 1, (.int .i64 0))]).map fun c => (Value.agg ⟨c⟩, h50)) fun t54 h51 =>
    k2 ((zn [(.int .i64 0), (.int .i64 0), (.int .i64 0)] [(0, 1, (.int .i64 1)), (1, 1, (.int .i64 0)), (2, 1, (.int .i64 1))]).map fun c => (Value.agg ⟨c⟩, h51)) fun t55 h52 =>
    k2 (zR 2 (zn (zo [(.int .i64 0), (.int .i64 0), (.int .i64 0)] 2) [(0 * 3, 3, t54), (1 * 3, 3, t55)]) h52) fun t56 h53 =>
    k2 (X.call (.func (.func n_w) #[] #[]) [t56] h53) fun t57 h54 =>
    k2 ((zn [(.int .i64 0), (.int .i64 0), (.slice none 0 0)] [(0, 1, (.int .i64 2)), (1, 1, (.int .i64 2)), (2, 1, t57)]).map fun c => (Value.agg ⟨c⟩, h54)) fun t58 h55 =>
    k2 (X.call (.func (.func n_S) #[] #[]) [t58] h55) fun t59 h56 =>
    k2 (some (t59, h56)) fun t53 h57 =>
    k2 (zm 0 t53 h57) fun t60 h58 =>
    k2 (zm 1 t53 h58) fun t61 h59 =>
    k2 (some (zh h59 [(.int .i64 0), (.int .i64 0), (.slice none 0 0)])) fun t11 h60 =>
    k2 (zq 3 t11 t60 h60) fun _ h61 =>
    k2 (some (t61, h61)) fun t12 h62 =>
    k2 (some (t4, h62)) fun t62 h63 =>
    k2 (vBin .neq .other t62 (.int .i64 0) h63) fun t63 h64 =>
    k2 (some (t63, h64)) fun t64 h65 =>
    k2 (gd t64 false h65 (some (t6, h65))) fun t65 h66 =>
    k2 (gd t64 false h66 (vBin .neq .other t65 (.int .i64 0) h66)) fun t66 h67 =>
    k2 (zD t64 (.bool true) t66 h67) fun t67 h68 =>
    k2 (some (t67, h68)) fun t68 h69 =>
    k2 (gd t68 false h69 (some (t8, h69))) fun t69 h70 =>
    k2 (gd t68 false h70 (vBin .neq .other t69 (.int .i64 0) h70)) fun t70 h71 =>
    k2 (zD t68 (.bool true) t70 h71) fun t71 h72 =>
    k2 (some (t71, h72)) fun t72 h73 =>
    k2 (gd t72 false h73 (some (t10, h73))) fun t73 h74 =>
    k2 (gd t72 false h74 (vBin .neq .other t73 (.int .i64 0) h74)) fun t74 h75 =>
    k2 (zD t72 (.bool true) t74 h75) fun t75 h76 =>
    k2 (some (t75, h76)) fun t76 h77 =>
    k2 (gd t76 false h77 (some (t12, h77))) fun t77 h78 =>
    k2 (gd t76 false h78 (vBin .neq .other t77 (.int .i64 0) h78)) fun t78 h79 =>
    k2 (zD t76 (.bool true) t78 h79) fun t79 h80 =>
    br t79
      (k2 (some ((.bool false), h80)) fun t0 h81 =>
    some (.val (zg [t0]) h81))
      (k2 ((zn [(.int .i64 0), (.int .i64 0), (.slice none 0 0)] [(0, 1, (.int .i64 3))]).map fun c => (Value.agg ⟨c⟩, h80)) fun t80 h82 =>
    k2 (some (zh h82 [(.int .i64 0), (.int .i64 0), (.slice none 0 0)])) fun t13 h83 =>
    k2 (zq 3 t13 t80 h83) fun _ h84 =>
    k2 (zj 3 t13 h84) fun t81 h85 =>
    k2 (zR 1 (zn (zo [(.int .i64 0), (.int .i64 0), (.slice none 0 0)] 1) [(0 * 3, 3, t81)]) h85) fun t82 h86 =>
    k2 ((zn [(.int .i64 0), (.int .i64 0), (.slice none 0 0)] [(0, 1, (.int .i64 4)), (1, 1, (.int .i64 2)), (2, 1, t82)]).map fun c => (Value.agg ⟨c⟩, h86)) fun t83 h87 =>
    k2 (zj 3 t13 h87) fun t84 h88 =>
    k2 (zR 1 (zn (zo [(.int .i64 0), (.int .i64 0), (.slice none 0 0)] 1) [(0 * 3, 3, t84)]) h88) fun t85 h89 =>
    k2 ((zn [(.int .i64 0), (.int .i64 0), (.slice none 0 0)] [(0, 1, (.int .i64 4)), (1, 1, (.int .i64 1)), (2, 1, t85)]).map fun c => (Value.agg ⟨c⟩, h89)) fun t86 h90 =>
    k2 (zR 2 (zn (zo [(.int .i64 0), (.int .i64 0), (.slice none 0 0)] 2) [(0 * 3, 3, t83), (1 * 3, 3, t86)]) h90) fun t87 h91 =>
    k2 (some (t87, h91)) fun t14 h92 =>
    k2 (some (t14, h92)) fun t88 h93 =>
    k2 ((zn [(.int .i64 0), (.int .i64 0), (.slice none 0 0)] [(0, 1, (.int .i64 3)), (2, 1, t88)]).map fun c => (Value.agg ⟨c⟩, h93)) fun t89 h94 =>
    k2 (zR 1 (zn (zo [(.int .i64 0), (.int .i64 0), (.slice none 0 0)] 1) [(0 * 3, 3, t89)]) h94) fun t90 h95 =>
    k2 ((zn [(.int .i64 0), (.int .i64 0), (.slice none 0 0)] [(0, 1, (.int .i64 4)), (1, 1, (.int .i64 1)), (2, 1, t90)]).map fun c => (Value.agg ⟨c⟩, h95)) fun t91 h96 =>
    k2 (some (zh h96 [(.int .i64 0), (.int .i64 0), (.slice none 0 0)])) fun t15 h97 =>
    k2 (zq 3 t15 t91 h97) fun _ h98 =>
    k2 ((zn [(.int .i64 0), (.int .i64 0), (.int .i64 0)] [(0, 1, (.int .i64 0)), (1, 1, (.int .i64 0)), (2, 1, (.int .i64 0))]).map fun c => (Value.agg ⟨c⟩, h98)) fun t92 h99 =>
    k2 ((zn [(.int .i64 0), (.int .i64 0), (.int .i64 0)] [(0, 1, (.int .i64 0)), (1, 1, (.int .i64 1)), (2, 1, (.int .i64 0))]).map fun c => (Value.agg ⟨c⟩, h99)) fun t93 h100 =>
    k2 ((zn [(.int .i64 0), (.int .i64 0), (.int .i64 0)] [(0, 1, (.int .i64 0)), (1, 1, (.int .i64 0)), (2, 1, (.int .i64 1))]).map fun c => (Value.agg ⟨c⟩, h100)) fun t94 h101 =>
    k2 ((zn [(.int .i64 0), (.int .i64 0), (.int .i64 0)] [(0, 1, (.int .i64 0)), (1, 1, (.int .i64 1)), (2, 1, (.int .i64 1))]).map fun c => (Value.agg ⟨c⟩, h101)) fun t95 h102 =>
    k2 ((zn [(.int .i64 0), (.int .i64 0), (.int .i64 0)] [(0, 1, (.int .i64 1)), (1, 1, (.int .i64 1)), (2, 1, (.int .i64 0))]).map fun c => (Value.agg ⟨c⟩, h102)) fun t96 h103 =>
    k2 ((zn [(.int .i64 0), (.int .i64 0), (.int .i64 0)] [(0, 1, (.int .i64 1)), (1, 1, (.int .i64 0)), (2, 1, (.int .i64 1))]).map fun c => (Value.agg ⟨c⟩, h103)) fun t97 h104 =>
    k2 ((zn [(.int .i64 0), (.int .i64 0), (.int .i64 0)] [(0, 1, (.int .i64 1)), (1, 1, (.int .i64 1)), (2, 1, (.int .i64 1))]).map fun c => (Value.agg ⟨c⟩, h104)) fun t98 h105 =>
    k2 (zR 7 (zn (zo [(.int .i64 0), (.int .i64 0), (.int .i64 0)] 7) [(0 * 3, 3, t92), (1 * 3, 3, t93), (2 * 3, 3, t94), (3 * 3, 3, t95), (4 * 3, 3, t96), (5 * 3, 3, t97), (6 * 3, 3, t98)]) h105) fun t99 h106 =>
    k2 (X.call (.func (.func n_w) #[] #[]) [t99] h106) fun t100 h107 =>
    k2 (some (t100, h107)) fun t16 h108 =>
    k2 (some (t3, h108)) fun t101 h109 =>
    k2 (zR 4 (zn (zo [(.int .i64 0)] 4) [(0 * 1, 1, (.int .i64 0)), (1 * 1, 1, (.int .i64 1)), (2 * 1, 1, (.int .i64 2)), (3 * 1, 1, (.int .i64 2))]) h109) fun t102 h110 =>
    k2 (X.call (.func (.func n_s) #[] #[]) [t101, t102] h110) fun t103 h111 =>
    k2 (some (t103, h111)) fun t104 h112 =>
    k2 (gd t104 true h112 (some (t5, h112))) fun t105 h113 =>
    k2 (gd t104 true h113 (zR 5 (zn (zo [(.int .i64 0)] 5) [(0 * 1, 1, (.int .i64 0)), (1 * 1, 1, (.int .i64 1)), (2 * 1, 1, (.int .i64 2)), (3 * 1, 1, (.int .i64 3)), (4 * 1, 1, (.int .i64 3))]) h113)) fun t106 h114 =>
    k2 (gd t104 true h114 (X.call (.func (.func n_s) #[] #[]) [t105, t106] h114)) fun t107 h115 =>
    k2 (zD t104 t107 (.bool false) h115) fun t108 h116 =>
    k2 (some (t108, h116)) fun t109 h117 =>
    k2 (gd t109 true h117 (some (t7, h117))) fun t110 h118 =>
    k2 (gd t109 true h118 (vUn .not t110 h118)) fun t111 h119 =>
    k2 (zD t109 t111 (.bool false) h119) fun t112 h120 =>
    k2 (some (t112, h120)) fun t113 h121 =>
    k2 (gd t113 true h121 (zj 3 t9 h121)) fun t114 h122 =>
    k2 (gd t113 true h122 (zj 3 t15 h122)) fun t115 h123 =>
    k2 (gd t113 true h123 (X.call (.func (.func n_n) #[] #[]) [t114, t115] h123)) fun t116 h124 =>
    k2 (zD t113 t116 (.bool false) h124) fun t117 h125 =>
    k2 (some (t117, h125)) fun t118 h126 =>
    k2 (gd t118 true h126 (zj 3 t11 h126)) fun t119 h127 =>
    k2 (gd t118 true h127 (some (t16, h127))) fun t120 h128 =>
    k2 (gd t118 true h128 ((zn [(.int .i64 0), (.int .i64 0), (.slice none 0 0)] [(0, 1, (.int .i64 2)), (1, 1, (.int .i64 2)), (2, 1, t120)]).map fun c => (Value.agg ⟨c⟩, h128))) fun t121 h129 =>
    k2 (gd t118 true h129 (X.call (.func (.func n_r) #[] #[]) [t119, t121] h129)) fun t122 h130 =>
    k2 (zD t118 t122 (.bool false) h130) fun t123 h131 =>
    k2 (some (t123, h131)) fun t0 h132 =>
    some (.val (zg [t0]) h132)))
def x_F : Rn → List Value → H → Option Out := zeH
theorem e_F : ((fun X args h => zl X 0 f_F args h) : Rn → List Value → H → Option Out) = x_F := by kernel_rfl
def T_judge_Tells (X : Rn) (args : List Value) (h : H) : Option Out :=
    uc args fun t0 args => uc args fun t1 args => uc args fun t2 args => un args (k2 (some (zh h (zi t0))) fun t3 h1 =>
    k2 (some (zh h1 [(.int .i64 0), (.int .i64 0), (.slice none 0 0)])) fun t6 h2 =>
    k2 (some ((.int .i64 0), h2)) fun t7 h3 =>
    k2 (zj 3 t3 h3) fun t11 h4 =>
    k2 (some (t1, h4)) fun t12 h5 =>
    k2 (X.call (.func (.func n_P) #[] #[]) [t11, t12] h5) fun t13 h6 =>
    k2 (vUn .not t13 h6) fun t14 h7 =>
    k2 (some (t14, h7)) fun t15 h8 =>
    k2 (gd t15 false h8 (zj 3 t3 h8)) fun t16 h9 =>
    k2 (gd t15 false h9 (some (t2, h9))) fun t17 h10 =>
    k2 (gd t15 false h10 (X.call (.func (.func n_P) #[] #[]) [t16, t17] h10)) fun t18 h11 =>
    k2 (gd t15 false h11 (vUn .not t18 h11)) fun t19 h12 =>
    k2 (zD t15 (.bool true) t19 h12) fun t20 h13 =>
    br t20
      (k2 ((zn [(.int .i64 0), (.int .i64 0), (.slice none 0 0)] []).map fun c => (Value.agg ⟨c⟩, h13)) fun t21 h14 =>
    k2 (zq 3 t6 t21 h14) fun _ h15 =>
    k2 (some ((.int .i64 2), h15)) fun t7 h16 =>
    (vRes (some 3) t6 h16).bind fun r0 => some (.val (zg [r0, t7]) h16))
      (k2 (rdF (fun b => zj 3 t3 b) 0 h13 [(0, h13)]) fun t22 h17 =>
    k2 (X.call (.func (.func n_d) #[] #[]) [t22] h17) fun t23 h18 =>
    k2 (rdF (fun b => zj 3 t3 b) 0 h18 [(1, h18), (0, h13)]) fun t24 h19 =>
    k2 (some (.map (some h19.next), h19.new (.map [] 0))) fun t25 h20 =>
    k2 ((zn [(.map none), (.int .i64 0), (.int .i64 0), (.slice none 0 0), (.map none)] [(0, 1, t23), (1, 3, t24), (4, 1, t25)]).map fun c => (Value.agg ⟨c⟩, h20)) fun t26 h21 =>
    k2 (some (zh h21 [(.map none), (.int .i64 0), (.int .i64 0), (.slice none 0 0), (.map none)])) fun t8 h22 =>
    k2 (zq 5 t8 t26 h22) fun _ h23 =>
    k2 (zd 0 t8 h23) fun t28 h24 =>
    k2 (zc t28 h24) fun t29 h25 =>
    k2 (some (t1, h25)) fun t30 h26 =>
    k2 (some (t2, h26)) fun t31 h27 =>
    k2 ((zn [(.int .i64 0), (.int .i64 0)] [(0, 1, t30), (1, 1, t31)]).map fun c => (Value.agg ⟨c⟩, h27)) fun t32 h28 =>
    k2 (zbM (.leaves [0, 1]) (.int .i64 0) true t29 t32 h28) fun t33 h29 =>
    k2 (some (t33, h29)) fun t27 h30 =>
    k2 (zm 0 t27 h30) fun t34 h31 =>
    k2 (zm 1 t27 h31) fun t35 h32 =>
    k2 (some (t34, h32)) fun t9 h33 =>
    k2 (some (t35, h33)) fun t10 h34 =>
    k2 (some (t10, h34)) fun t36 h35 =>
    k2 (vUn .not t36 h35) fun t37 h36 =>
    br t37
      (k2 ((zn [(.int .i64 0), (.int .i64 0), (.slice none 0 0)] []).map fun c => (Value.agg ⟨c⟩, h36)) fun t38 h37 =>
    k2 (zq 3 t6 t38 h37) fun _ h38 =>
    k2 (some ((.int .i64 5), h38)) fun t7 h39 =>
    (vRes (some 3) t6 h39).bind fun r0 => some (.val (zg [r0, t7]) h39))
      (k2 (zj 5 t8 h36) fun t39 h40 =>
    k2 (some (t1, h40)) fun t40 h41 =>
    k2 (some (t2, h41)) fun t41 h42 =>
    k2 (X.call (.func (.func n_u) #[] #[]) [t39, t40, t41] h42) fun t42 h43 =>
    k2 (vBin .gtr .other t42 (.int .i64 3000) h43) fun t43 h44 =>
    br t43
      (k2 ((zn [(.int .i64 0), (.int .i64 0), (.slice none 0 0)] []).map fun c => (Value.agg ⟨c⟩, h44)) fun t44 h45 =>
    k2 (zq 3 t6 t44 h45) fun _ h46 =>
    k2 (some ((.int .i64 3), h46)) fun t7 h47 =>
    (vRes (some 3) t6 h47).bind fun r0 => some (.val (zg [r0, t7]) h47))
      (k2 (zj 5 t8 h44) fun t45 h48 =>
    k2 (some (t1, h48)) fun t46 h49 =>
    k2 (some (t2, h49)) fun t47 h50 =>
    k2 (X.call (.func (.func n_p) #[] #[]) [t45, t46, t47] h50) fun t48 h51 =>
    k2 (zq 3 t6 t48 h51) fun _ h52 =>
    k2 (some ((.int .i64 0), h52)) fun t7 h53 =>
    (vRes (some 3) t6 h53).bind fun r0 => some (.val (zg [r0, t7]) h53)))))
def x_R : Rn → List Value → H → Option Out := T_judge_Tells
theorem e_R : ((fun X args h => zl X 3 f_R args h) : Rn → List Value → H → Option Out) = x_R := by kernel_rfl
def zcv (X : Rn) (h : H) : Option Out :=
    k2 (some ((.bool true), h)) fun t4 h1 =>
    some (.val (zg [t4]) h1)
def x_n_0 : Rn → H → Option Out := zcv
theorem e_n_0 : ((fun X h => sh X c_n_0 (KZ_n_0 X) (setL [] []) h) : Rn → H → Option Out) = x_n_0 := by kernel_rfl
def zbs (i_n_0 : Rn → H → Option Out) (X : Rn) (z_1 : Z) (t2 t3 t5 : Value) (h : H) : Option Out :=
    k2 (some (t5, h)) fun t27 h1 =>
    k2 (zd 2 t2 h1) fun t28 h2 =>
    k2 (zc t28 h2) fun t29 h3 =>
    k2 (bltV h3 .len [t29]) fun t30 h4 =>
    k2 (vBin .lss .other t27 t30 h4) fun t31 h5 =>
    br t31
      (k2 (zd 2 t2 h5) fun t34 h6 =>
    k2 (rdF (fun b => zc t34 b) 0 h6 [(0, h5)]) fun t35 h7 =>
    k2 (some (t5, h7)) fun t36 h8 =>
    k2 (zr 3 t35 t36 h8) fun t37 h9 =>
    k2 (rdF (fun b => zj 3 t37 b) 0 h9 [(0, h5)]) fun t38 h10 =>
    k2 (zd 2 t3 h10) fun t39 h11 =>
    k2 (rdF (fun b => zc t39 b) 0 h11 [(0, h5)]) fun t40 h12 =>
    k2 (some (t5, h12)) fun t41 h13 =>
    k2 (zr 3 t40 t41 h13) fun t42 h14 =>
    k2 (rdF (fun b => zj 3 t42 b) 0 h14 [(0, h5)]) fun t43 h15 =>
    k2 (X.call (.func (.func n_n) #[] #[]) [t38, t43] h15) fun t44 h16 =>
    k2 (vUn .not t44 h16) fun t45 h17 =>
    br t45
      (k2 (some ((.bool false), h17)) fun t4 h18 =>
    some (.val (zg [t4]) h18))
      (k2 (some (t5, h17)) fun t32 h19 =>
    k2 (vBin .add .other t32 (.int .i64 1) h19) fun t33 h20 =>
    k2 (some (t33, h20)) fun t5_21 h22 =>
    z_1 [t2, t3, t5_21] h22))
      (i_n_0 X h5)
def x_n_1 : Rn → Z → Value → Value → Value → H → Option Out := zbs x_n_0
theorem e_n_1 : ((fun X z_1 t2 t3 t5 h => sh X c_n_1 (KZ_n_1 X z_1) (setL [p2, p3, p5] [t2, t3, t5]) h) : Rn → Z → Value → Value → Value → H → Option Out) = x_n_1 := (show ((fun X z_1 t2 t3 t5 h => sh X c_n_1 (KZ_n_1 X z_1) (setL [p2, p3, p5] [t2, t3, t5]) h) : Rn → Z → Value → Value → Value → H → Option Out) = zbs (fun X h => sh X c_n_0 (KZ_n_0 X) (setL [] []) h) by kernel_rfl).trans (by rw [e_n_0]; rfl)
def zbA (i_n_1 : Rn → Z → Value → Value → Value → H → Option Out) (X : Rn) (args : List Value) (h : H) : Option Out :=
    uc args fun t0 args => uc args fun t1 args => un args (k2 (some (zh h (zi t0))) fun t2 h1 =>
    k2 (some (zh h1 (zi t1))) fun t3 h2 =>
    k2 (some ((.bool false), h2)) fun t4 h3 =>
    k2 (zd 0 t2 h3) fun t6 h4 =>
    k2 (zc t6 h4) fun t7 h5 =>
    k2 (zd 0 t3 h5) fun t8 h6 =>
    k2 (zc t8 h6) fun t9 h7 =>
    k2 (vBin .neq .other t7 t9 h7) fun t10 h8 =>
    k2 (some (t10, h8)) fun t11 h9 =>
    k2 (gd t11 false h9 (zd 1 t2 h9)) fun t12 h10 =>
    k2 (gd t11 false h10 (zc t12 h10)) fun t13 h11 =>
    k2 (gd t11 false h11 (zd 1 t3 h11)) fun t14 h12 =>
    k2 (gd t11 false h12 (zc t14 h12)) fun t15 h13 =>
    k2 (gd t11 false h13 (vBin .neq .other t13 t15 h13)) fun t16 h14 =>
    k2 (zD t11 (.bool true) t16 h14) fun t17 h15 =>
    k2 (some (t17, h15)) fun t18 h16 =>
    k2 (gd t18 false h16 (zd 2 t2 h16)) fun t19 h17 =>
    k2 (gd t18 false h17 (zc t19 h17)) fun t20 h18 =>
    k2 (gd t18 false h18 (bltV h18 .len [t20])) fun t21 h19 =>
    k2 (gd t18 false h19 (zd 2 t3 h19)) fun t22 h20 =>
    k2 (gd t18 false h20 (zc t22 h20)) fun t23 h21 =>
    k2 (gd t18 false h21 (bltV h21 .len [t23])) fun t24 h22 =>
    k2 (gd t18 false h22 (vBin .neq .other t21 t24 h22)) fun t25 h23 =>
    k2 (zD t18 (.bool true) t25 h23) fun t26 h24 =>
    br t26
      (k2 (some ((.bool false), h24)) fun t4 h25 =>
    some (.val (zg [t4]) h25))
      (k2 (some ((.int .i64 0), h24)) fun t5 h26 =>
    X.loop [p2, p3, p5] c_n_1 (kBlk 0 (kSeq X c_n_0 [] (KZ_n_0 X))) (fun z_1 vs h => uc vs fun t2 vs => uc vs fun t3 vs => uc vs fun t5 vs => un vs (i_n_1 X z_1 t2 t3 t5 h)) [t2, t3, t5] h26))
def x_n : Rn → List Value → H → Option Out := zbA x_n_1
theorem e_n : ((fun X args h => zl X 2 f_n args h) : Rn → List Value → H → Option Out) = x_n := (show ((fun X args h => zl X 2 f_n args h) : Rn → List Value → H → Option Out) = zbA (fun X z_1 t2 t3 t5 h => sh X c_n_1 (KZ_n_1 X z_1) (setL [p2, p3, p5] [t2, t3, t5]) h) by kernel_rfl).trans (by rw [e_n_1]; rfl)
def T_judge_Alike (X : Rn) (args : List Value) (h : H) : Option Out :=
    uc args fun t0 args => uc args fun t1 args => un args (k2 (some (zh h (zi t0))) fun t2 h1 =>
    k2 (some (zh h1 (zi t1))) fun t3 h2 =>
    k2 (some ((.bool false), h2)) fun t4 h3 =>
    k2 (some ((.int .i64 0), h3)) fun t5 h4 =>
    k2 (zj 3 t2 h4) fun t6 h5 =>
    k2 (zj 3 t3 h5) fun t7 h6 =>
    k2 (X.call (.func (.func n_N) #[] #[]) [t6, t7] h6) fun t8 h7 =>
    k2 (vUn .not t8 h7) fun t9 h8 =>
    br t9
      (k2 (some ((.bool false), h8)) fun t4 h9 =>
    k2 (some ((.int .i64 2), h9)) fun t5 h10 =>
    some (.val (zg [t4, t5]) h10))
      (k2 (zj 3 t2 h8) fun t10 h11 =>
    k2 (zj 3 t3 h11) fun t11 h12 =>
    k2 (X.call (.func (.func n_y) #[] #[]) [t10, t11] h12) fun t12 h13 =>
    k2 (some (t12, h13)) fun t4 h14 =>
    k2 (some ((.int .i64 0), h14)) fun t5 h15 =>
    some (.val (zg [t4, t5]) h15)))
def x_L : Rn → List Value → H → Option Out := T_judge_Alike
theorem e_L : ((fun X args h => zl X 2 f_L args h) : Rn → List Value → H → Option Out) = x_L := by kernel_rfl
def zix (X : Rn) (args : List Value) (h : H) : Option Out :=
    uc args fun t0 args => un args (k2 (some (zh h (zi t0))) fun t1 h1 =>
    k2 (some ((.slice none 0 0), h1)) fun t2 h2 =>
    k2 (some ((.int .i64 0), h2)) fun t3 h3 =>
    k2 (zj 3 t1 h3) fun t4 h4 =>
    k2 (X.call (.func (.func n_o) #[] #[]) [t4] h4) fun t5 h5 =>
    k2 (vBin .neq .other t5 (.int .i64 0) h5) fun t6 h6 =>
    br t6
      (k2 (some ((.slice none 0 0), h6)) fun t2 h7 =>
    k2 (some ((.int .i64 2), h7)) fun t3 h8 =>
    some (.val (zg [t2, t3]) h8))
      (k2 (zj 3 t1 h6) fun t7 h9 =>
    k2 (X.call (.func (.func n_m) #[] #[]) [t7] h9) fun t8 h10 =>
    k2 (some (t8, h10)) fun t2 h11 =>
    k2 (some ((.int .i64 0), h11)) fun t3 h12 =>
    some (.val (zg [t2, t3]) h12)))
def x_Q : Rn → List Value → H → Option Out := zix
theorem e_Q : ((fun X args h => zl X 1 f_Q args h) : Rn → List Value → H → Option Out) = x_Q := by kernel_rfl
def zcW (X : Rn) (h : H) : Option Out :=
    k2 (some ((.bool true), h)) fun t4 h1 =>
    some (.val (zg [t4]) h1)
def x_s_0 : Rn → H → Option Out := zcW
theorem e_s_0 : ((fun X h => sh X c_s_0 (KZ_s_0 X) (setL [] []) h) : Rn → H → Option Out) = x_s_0 := by kernel_rfl
def zbC (i_s_0 : Rn → H → Option Out) (X : Rn) (z_1 : Z) (t0 t1 t5 : Value) (h : H) : Option Out :=
    k2 (some (t5, h)) fun t11 h1 =>
    k2 (some (t0, h1)) fun t12 h2 =>
    k2 (bltV h2 .len [t12]) fun t13 h3 =>
    k2 (vBin .lss .other t11 t13 h3) fun t14 h4 =>
    br t14
      (k2 (some (t0, h4)) fun t17 h5 =>
    k2 (some (t5, h5)) fun t18 h6 =>
    k2 (zr 1 t17 t18 h6) fun t19 h7 =>
    k2 (rdF (fun b => zc t19 b) 0 h7 [(0, h4)]) fun t20 h8 =>
    k2 (some (t1, h8)) fun t21 h9 =>
    k2 (some (t5, h9)) fun t22 h10 =>
    k2 (zr 1 t21 t22 h10) fun t23 h11 =>
    k2 (rdF (fun b => zc t23 b) 0 h11 [(0, h4)]) fun t24 h12 =>
    k2 (vBin .neq .other t20 t24 h12) fun t25 h13 =>
    br t25
      (k2 (some ((.bool false), h13)) fun t4 h14 =>
    some (.val (zg [t4]) h14))
      (k2 (some (t5, h13)) fun t15 h15 =>
    k2 (vBin .add .other t15 (.int .i64 1) h15) fun t16 h16 =>
    k2 (some (t16, h16)) fun t5_17 h18 =>
    z_1 [t0, t1, t5_17] h18))
      (i_s_0 X h4)
def x_s_1 : Rn → Z → Value → Value → Value → H → Option Out := zbC x_s_0
theorem e_s_1 : ((fun X z_1 t0 t1 t5 h => sh X c_s_1 (KZ_s_1 X z_1) (setL [p0, p1, p5] [t0, t1, t5]) h) : Rn → Z → Value → Value → Value → H → Option Out) = x_s_1 := (show ((fun X z_1 t0 t1 t5 h => sh X c_s_1 (KZ_s_1 X z_1) (setL [p0, p1, p5] [t0, t1, t5]) h) : Rn → Z → Value → Value → Value → H → Option Out) = zbC (fun X h => sh X c_s_0 (KZ_s_0 X) (setL [] []) h) by kernel_rfl).trans (by rw [e_s_0]; rfl)
def zbT (i_s_1 : Rn → Z → Value → Value → Value → H → Option Out) (X : Rn) (args : List Value) (h : H) : Option Out :=
    uc args fun t0 args => uc args fun t1 args => un args (k2 (some ((.bool false), h)) fun t4 h1 =>
    k2 (some (t0, h1)) fun t6 h2 =>
    k2 (bltV h2 .len [t6]) fun t7 h3 =>
    k2 (some (t1, h3)) fun t8 h4 =>
    k2 (bltV h4 .len [t8]) fun t9 h5 =>
    k2 (vBin .neq .other t7 t9 h5) fun t10 h6 =>
    br t10
      (k2 (some ((.bool false), h6)) fun t4 h7 =>
    some (.val (zg [t4]) h7))
      (k2 (some ((.int .i64 0), h6)) fun t5 h8 =>
    X.loop [p0, p1, p5] c_s_1 (kBlk 0 (kSeq X c_s_0 [] (KZ_s_0 X))) (fun z_1 vs h => uc vs fun t0 vs => uc vs fun t1 vs => uc vs fun t5 vs => un vs (i_s_1 X z_1 t0 t1 t5 h)) [t0, t1, t5] h8))
def x_s : Rn → List Value → H → Option Out := zbT x_s_1
theorem e_s : ((fun X args h => zl X 2 f_s args h) : Rn → List Value → H → Option Out) = x_s := (show ((fun X args h => zl X 2 f_s args h) : Rn → List Value → H → Option Out) = zbT (fun X z_1 t0 t1 t5 h => sh X c_s_1 (KZ_s_1 X z_1) (setL [p0, p1, p5] [t0, t1, t5]) h) by kernel_rfl).trans (by rw [e_s_1]; rfl)
def ziY (X : Rn) (t2 t3 : Value) (h : H) : Option Out :=
    k2 (zj 3 t3 h) fun t122 h1 =>
    k2 (zq 3 t2 t122 h1) fun _ h2 =>
    (vRes (some 3) t2 h2).bind fun r0 => some (.val (zg [r0]) h2)
def x_e_2 : Rn → Value → Value → H → Option Out := ziY
theorem e_e_2 : ((fun X t2 t3 h => sh X c_e_2 (KZ_e_2 X) (setL [p2, p3] [t2, t3]) h) : Rn → Value → Value → H → Option Out) = x_e_2 := by kernel_rfl
def ziX (X : Rn) (z_3 : Z) (t1 t2 t3 t4 t39 t40 : Value) (h : H) : Option Out :=
    k2 (vBin .add .other t40 (.int .i64 1) h) fun t121 h1 =>
    k2 (some (t121, h1)) fun t40_2 h3 =>
    z_3 [t1, t2, t3, t4, t39, t40_2] h3
def x_e_4 : Rn → Z → Value → Value → Value → Value → Value → Value → H → Option Out := ziX
theorem e_e_4 : ((fun X z_3 t1 t2 t3 t4 t39 t40 h => sh X c_e_4 (KZ_e_4 X z_3) (setL [p1, p2, p3, p4, p39, p40] [t1, t2, t3, t4, t39, t40]) h) : Rn → Z → Value → Value → Value → Value → Value → Value → H → Option Out) = x_e_4 := by kernel_rfl
def zin (X : Rn) (z_3 z_13 : Z) (t1 t2 t3 t4 t6 t39 t40 t95 t96 t97 : Value) (h : H) : Option Out :=
    k2 (vBin .add .other t97 (.int .i64 1) h) fun t120 h1 =>
    k2 (some (t120, h1)) fun t97_2 h3 =>
    z_13 [t1, t2, t3, t4, t6, t39, t40, t95, t96, t97_2] h3
def x_e_14 : Rn → Z → Z → Value → Value → Value → Value → Value → Value → Value → Value → Value → Value → H → Option Out := zin
theorem e_e_14 : ((fun X z_3 z_13 t1 t2 t3 t4 t6 t39 t40 t95 t96 t97 h => sh X c_e_14 (KZ_e_14 X z_3 z_13) (setL [p1, p2, p3, p4, p6, p39, p40, p95, p96, p97] [t1, t2, t3, t4, t6, t39, t40, t95, t96, t97]) h) : Rn → Z → Z → Value → Value → Value → Value → Value → Value → Value → Value → Value → Value → H → Option Out) = x_e_14 := by kernel_rfl
def zim (X : Rn) (z_3 z_13 z_15 : Z) (t1 t2 t3 t4 t6 t14 t39 t40 t95 t96 t97 t102 t103 t104 : Value) (h : H) : Option Out :=
    k2 (vBin .add .other t104 (.int .i64 1) h) fun t119 h1 =>
    k2 (some (t119, h1)) fun t104_2 h3 =>
    z_15 [t1, t2, t3, t4, t6, t14, t39, t40, t95, t96, t97, t102, t103, t104_2] h3
def x_e_16 : Rn → Z → Z → Z → Value → Value → Value → Value → Value → Value → Value → Value → Value → Value → Value → Value → Value → Value → H → Option Out := zim
theorem e_e_16 : ((fun X z_3 z_13 z_15 t1 t2 t3 t4 t6 t14 t39 t40 t95 t96 t97 t102 t103 t104 h => sh X c_e_16 (KZ_e_16 X z_3 z_13 z_15) (setL [p1, p2, p3, p4, p6, p14, p39, p40, p95, p96, p97, p102, p103, p104] [t1, t2, t3, t4, t6, t14, t39, t40, t95, t96, t97, t102, t103, t104]) h) : Rn → Z → Z → Z → Value → Value → Value → Value → Value → Value → Value → Value → Value → Value → Value → Value → Value → Value → H → Option Out) = x_e_16 := by kernel_rfl
def zeo (i_e_16 : Rn → Z → Z → Z → Value → Value → Value → Value → Value → Value → Value → Value → Value → Value → Value → Value → Value → Value → H → Option Out) (i_e_14 : Rn → Z → Z → Value → Value → Value → Value → Value → Value → Value → Value → Value → Value → H → Option Out) (X : Rn) (z_3 z_13 z_15 : Z) (t1 t2 t3 t4 t6 t14 t39 t40 t95 t96 t97 t102 t103 t104 : Value) (h : H) : Option Out :=
    k2 (vBin .lss .other t104 t103 h) fun t105 h1 =>
    br t105
      (k2 (some (t104, h1)) fun t106 h2 =>
    k2 (zr 1 t102 t104 h2) fun t107 h3 =>
    k2 (zc t107 h3) fun t108 h4 =>
    k2 (some (t106, h4)) fun t16 h5 =>
    k2 (some (t108, h5)) fun t17 h6 =>
    k2 (some (t17, h6)) fun t109 h7 =>
    br t109
      (k2 (zd 2 t3 h7) fun t110 h8 =>
    k2 (zc t110 h8) fun t111 h9 =>
    k2 (some (t6, h9)) fun t112 h10 =>
    k2 (some (t16, h10)) fun t113 h11 =>
    k2 (some (t14, h11)) fun t114 h12 =>
    k2 ((zn [(.int .i64 0), (.int .i64 0), (.int .i64 0)] [(0, 1, t112), (1, 1, t113), (2, 1, t114)]).map fun c => (Value.agg ⟨c⟩, h12)) fun t115 h13 =>
    k2 (zR 1 (zn (zo [(.int .i64 0), (.int .i64 0), (.int .i64 0)] 1) [(0 * 3, 3, t115)]) h13) fun t116 h14 =>
    k2 (bltV h14 (.append 3 24) [t111, t116]) fun t117 h15 =>
    k2 (zd 2 t3 h15) fun t118 h16 =>
    k2 (zq 1 t118 t117 h16) fun _ h17 =>
    i_e_16 X z_3 z_13 z_15 t1 t2 t3 t4 t6 t14 t39 t40 t95 t96 t97 t102 t103 t104 h17)
      (i_e_16 X z_3 z_13 z_15 t1 t2 t3 t4 t6 t14 t39 t40 t95 t96 t97 t102 t103 t104 h7))
      (i_e_14 X z_3 z_13 t1 t2 t3 t4 t6 t39 t40 t95 t96 t97 h1)
def x_e_15 : Rn → Z → Z → Z → Value → Value → Value → Value → Value → Value → Value → Value → Value → Value → Value → Value → Value → Value → H → Option Out := zeo x_e_16 x_e_14
theorem e_e_15 : ((fun X z_3 z_13 z_15 t1 t2 t3 t4 t6 t14 t39 t40 t95 t96 t97 t102 t103 t104 h => sh X c_e_15 (KZ_e_15 X z_3 z_13 z_15) (setL [p1, p2, p3, p4, p6, p14, p39, p40, p95, p96, p97, p102, p103, p104] [t1, t2, t3, t4, t6, t14, t39, t40, t95, t96, t97, t102, t103, t104]) h) : Rn → Z → Z → Z → Value → Value → Value → Value → Value → Value → Value → Value → Value → Value → Value → Value → Value → Value → H → Option Out) = x_e_15 := (show ((fun X z_3 z_13 z_15 t1 t2 t3 t4 t6 t14 t39 t40 t95 t96 t97 t102 t103 t104 h => sh X c_e_15 (KZ_e_15 X z_3 z_13 z_15) (setL [p1, p2, p3, p4, p6, p14, p39, p40, p95, p96, p97, p102, p103, p104] [t1, t2, t3, t4, t6, t14, t39, t40, t95, t96, t97, t102, t103, t104]) h) : Rn → Z → Z → Z → Value → Value → Value → Value → Value → Value → Value → Value → Value → Value → Value → Value → Value → Value → H → Option Out) = zeo (fun X z_3 z_13 z_15 t1 t2 t3 t4 t6 t14 t39 t40 t95 t96 t97 t102 t103 t104 h => sh X c_e_16 (KZ_e_16 X z_3 z_13 z_15) (setL [p1, p2, p3, p4, p6, p14, p39, p40, p95, p96, p97, p102, p103, p104] [t1, t2, t3, t4, t6, t14, t39, t40, t95, t96, t97, t102, t103, t104]) h) (fun X z_3 z_13 t1 t2 t3 t4 t6 t39 t40 t95 t96 t97 h => sh X c_e_14 (KZ_e_14 X z_3 z_13) (setL [p1, p2, p3, p4, p6, p39, p40, p95, p96, p97] [t1, t2, t3, t4, t6, t39, t40, t95, t96, t97]) h) by kernel_rfl).trans (by rw [e_e_16, e_e_14]; rfl)
def zep (i_e_15 : Rn → Z → Z → Z → Value → Value → Value → Value → Value → Value → Value → Value → Value → Value → Value → Value → Value → Value → H → Option Out) (i_e_4 : Rn → Z → Value → Value → Value → Value → Value → Value → H → Option Out) (X : Rn) (z_3 z_13 : Z) (t1 t2 t3 t4 t6 t39 t40 t95 t96 t97 : Value) (h : H) : Option Out :=
    k2 (vBin .lss .other t97 t96 h) fun t98 h1 =>
    br t98
      (k2 (some (t97, h1)) fun t99 h2 =>
    k2 (zr 1 t95 t97 h2) fun t100 h3 =>
    k2 (zc t100 h3) fun t101 h4 =>
    k2 (some (t99, h4)) fun t14 h5 =>
    k2 (some (t101, h5)) fun t15 h6 =>
    k2 (some (t15, h6)) fun t102 h7 =>
    k2 (bltV h7 .len [t102]) fun t103 h8 =>
    k2 (some ((.int .i64 0), h8)) fun t104 h9 =>
    X.loop [p1, p2, p3, p4, p6, p14, p39, p40, p95, p96, p97, p102, p103, p104] c_e_15 (kBlk 14 (kBlk 13 (kSeq X c_e_14 [p1, p2, p3, p4, p6, p39, p40, p95, p96, p97] (KZ_e_14 X z_3 z_13)))) (fun z_15 vs h => uc vs fun t1 vs => uc vs fun t2 vs => uc vs fun t3 vs => uc vs fun t4 vs => uc vs fun t6 vs => uc vs fun t14 vs => uc vs fun t39 vs => uc vs fun t40 vs => uc vs fun t95 vs => uc vs fun t96 vs => uc vs fun t97 vs => uc vs fun t102 vs => uc vs fun t103 vs => uc vs fun t104 vs => un vs (i_e_15 X z_3 z_13 z_15 t1 t2 t3 t4 t6 t14 t39 t40 t95 t96 t97 t102 t103 t104 h)) [t1, t2, t3, t4, t6, t14, t39, t40, t95, t96, t97, t102, t103, t104] h9)
      (i_e_4 X z_3 t1 t2 t3 t4 t39 t40 h1)
def x_e_13 : Rn → Z → Z → Value → Value → Value → Value → Value → Value → Value → Value → Value → Value → H → Option Out := zep x_e_15 x_e_4
theorem e_e_13 : ((fun X z_3 z_13 t1 t2 t3 t4 t6 t39 t40 t95 t96 t97 h => sh X c_e_13 (KZ_e_13 X z_3 z_13) (setL [p1, p2, p3, p4, p6, p39, p40, p95, p96, p97] [t1, t2, t3, t4, t6, t39, t40, t95, t96, t97]) h) : Rn → Z → Z → Value → Value → Value → Value → Value → Value → Value → Value → Value → Value → H → Option Out) = x_e_13 := (show ((fun X z_3 z_13 t1 t2 t3 t4 t6 t39 t40 t95 t96 t97 h => sh X c_e_13 (KZ_e_13 X z_3 z_13) (setL [p1, p2, p3, p4, p6, p39, p40, p95, p96, p97] [t1, t2, t3, t4, t6, t39, t40, t95, t96, t97]) h) : Rn → Z → Z → Value → Value → Value → Value → Value → Value → Value → Value → Value → Value → H → Option Out) = zep (fun X z_3 z_13 z_15 t1 t2 t3 t4 t6 t14 t39 t40 t95 t96 t97 t102 t103 t104 h => sh X c_e_15 (KZ_e_15 X z_3 z_13 z_15) (setL [p1, p2, p3, p4, p6, p14, p39, p40, p95, p96, p97, p102, p103, p104] [t1, t2, t3, t4, t6, t14, t39, t40, t95, t96, t97, t102, t103, t104]) h) (fun X z_3 t1 t2 t3 t4 t39 t40 h => sh X c_e_4 (KZ_e_4 X z_3) (setL [p1, p2, p3, p4, p39, p40] [t1, t2, t3, t4, t39, t40]) h) by kernel_rfl).trans (by rw [e_e_15, e_e_4]; rfl)
def ze3 (i_e_13 : Rn → Z → Z → Value → Value → Value → Value → Value → Value → Value → Value → Value → Value → H → Option Out) (X : Rn) (z_3 : Z) (t1 t2 t3 t4 t6 t7 t39 t40 : Value) (h : H) : Option Out :=
    k2 (zc t7 h) fun t95 h1 =>
    k2 (bltV h1 .len [t95]) fun t96 h2 =>
    k2 (some ((.int .i64 0), h2)) fun t97 h3 =>
    X.loop [p1, p2, p3, p4, p6, p39, p40, p95, p96, p97] c_e_13 (kBlk 12 (ziE X z_3)) (fun z_13 vs h => uc vs fun t1 vs => uc vs fun t2 vs => uc vs fun t3 vs => uc vs fun t4 vs => uc vs fun t6 vs => uc vs fun t39 vs => uc vs fun t40 vs => uc vs fun t95 vs => uc vs fun t96 vs => uc vs fun t97 vs => un vs (i_e_13 X z_3 z_13 t1 t2 t3 t4 t6 t39 t40 t95 t96 t97 h)) [t1, t2, t3, t4, t6, t39, t40, t95, t96, t97] h3
def x_e_7 : Rn → Z → Value → Value → Value → Value → Value → Value → Value → Value → H → Option Out := ze3 x_e_13
theorem e_e_7 : ((fun X z_3 t1 t2 t3 t4 t6 t7 t39 t40 h => sh X c_e_7 (ziE X z_3) (setL [p1, p2, p3, p4, p6, p7, p39, p40] [t1, t2, t3, t4, t6, t7, t39, t40]) h) : Rn → Z → Value → Value → Value → Value → Value → Value → Value → Value → H → Option Out) = x_e_7 := (show ((fun X z_3 t1 t2 t3 t4 t6 t7 t39 t40 h => sh X c_e_7 (ziE X z_3) (setL [p1, p2, p3, p4, p6, p7, p39, p40] [t1, t2, t3, t4, t6, t7, t39, t40]) h) : Rn → Z → Value → Value → Value → Value → Value → Value → Value → Value → H → Option Out) = ze3 (fun X z_3 z_13 t1 t2 t3 t4 t6 t39 t40 t95 t96 t97 h => sh X c_e_13 (KZ_e_13 X z_3 z_13) (setL [p1, p2, p3, p4, p6, p39, p40, p95, p96, p97] [t1, t2, t3, t4, t6, t39, t40, t95, t96, t97]) h) by kernel_rfl).trans (by rw [e_e_13]; rfl)
def ziW (X : Rn) (z_3 z_8 : Z) (t1 t2 t3 t4 t6 t7 t39 t40 t61 t62 t63 : Value) (h : H) : Option Out :=
    k2 (vBin .add .other t63 (.int .i64 1) h) fun t94 h1 =>
    k2 (some (t94, h1)) fun t63_2 h3 =>
    z_8 [t1, t2, t3, t4, t6, t7, t39, t40, t61, t62, t63_2] h3
def x_e_9 : Rn → Z → Z → Value → Value → Value → Value → Value → Value → Value → Value → Value → Value → Value → H → Option Out := ziW
theorem e_e_9 : ((fun X z_3 z_8 t1 t2 t3 t4 t6 t7 t39 t40 t61 t62 t63 h => sh X c_e_9 (KZ_e_9 X z_3 z_8) (setL [p1, p2, p3, p4, p6, p7, p39, p40, p61, p62, p63] [t1, t2, t3, t4, t6, t7, t39, t40, t61, t62, t63]) h) : Rn → Z → Z → Value → Value → Value → Value → Value → Value → Value → Value → Value → Value → Value → H → Option Out) = x_e_9 := by kernel_rfl
def zio (X : Rn) (l : Nat) (z_12 : Z) (t7 t11 t80 t81 t82 : Value) (h : H) : Option Out :=
    k2 (vBin .lss .other t82 t81 h) fun t83 h1 =>
    br t83
      (k2 (zr 1 t80 t82 h1) fun t84 h2 =>
    k2 (zc t84 h2) fun t85 h3 =>
    k2 (some (t85, h3)) fun t13 h4 =>
    k2 (zc t7 h4) fun t86 h5 =>
    k2 (zd 2 t11 h5) fun t87 h6 =>
    k2 (zc t87 h6) fun t88 h7 =>
    k2 (zr 1 t86 t88 h7) fun t89 h8 =>
    k2 (zc t89 h8) fun t90 h9 =>
    k2 (some (t13, h9)) fun t91 h10 =>
    k2 (zr 1 t90 t91 h10) fun t92 h11 =>
    k2 (zq 1 t92 (.bool true) h11) fun _ h12 =>
    k2 (vBin .add .other t82 (.int .i64 1) h12) fun t93 h13 =>
    k2 (some (t93, h13)) fun t82_14 h15 =>
    z_12 [t7, t11, t80, t81, t82_14] h15)
      (fin l none h1)
def x_e_12 : Rn → Nat → Z → Value → Value → Value → Value → Value → H → Option Out := zio
theorem e_e_12 : ((fun X l z_12 t7 t11 t80 t81 t82 h => sh X c_e_12 (KZ_e_12 X l z_12) (setL [p7, p11, p80, p81, p82] [t7, t11, t80, t81, t82]) h) : Rn → Nat → Z → Value → Value → Value → Value → Value → H → Option Out) = x_e_12 := by kernel_rfl
def zeq (i_e_12 : Rn → Nat → Z → Value → Value → Value → Value → Value → H → Option Out) (X : Rn) (l : Nat) (t4 t7 t11 t75 : Value) (h : H) : Option Out :=
    k2 (zc t4 h) fun t76 h1 =>
    k2 (zd 1 t11 h1) fun t77 h2 =>
    k2 (zc t77 h2) fun t78 h3 =>
    k2 (zr 1 t76 t78 h3) fun t79 h4 =>
    k2 (zc t79 h4) fun t80 h5 =>
    k2 (bltV h5 .len [t80]) fun t81 h6 =>
    k2 (some ((.int .i64 0), h6)) fun t82 h7 =>
    X.loop [p7, p11, p80, p81, p82] c_e_12 (kBlk 10 (kBlk 9 (ziF X l))) (fun z_12 vs h => uc vs fun t7 vs => uc vs fun t11 vs => uc vs fun t80 vs => uc vs fun t81 vs => uc vs fun t82 vs => un vs (i_e_12 X l z_12 t7 t11 t80 t81 t82 h)) [t7, t11, t80, t81, t82] h7
def x_e_11 : Rn → Nat → Value → Value → Value → Value → H → Option Out := zeq x_e_12
theorem e_e_11 : ((fun X l t4 t7 t11 t75 h => sh X c_e_11 (ziF X l) (setL [p4, p7, p11, p75] [t4, t7, t11, t75]) h) : Rn → Nat → Value → Value → Value → Value → H → Option Out) = x_e_11 := (show ((fun X l t4 t7 t11 t75 h => sh X c_e_11 (ziF X l) (setL [p4, p7, p11, p75] [t4, t7, t11, t75]) h) : Rn → Nat → Value → Value → Value → Value → H → Option Out) = zeq (fun X l z_12 t7 t11 t80 t81 t82 h => sh X c_e_12 (KZ_e_12 X l z_12) (setL [p7, p11, p80, p81, p82] [t7, t11, t80, t81, t82]) h) by kernel_rfl).trans (by rw [e_e_12]; rfl)
def zer (i_e_11 : Rn → Nat → Value → Value → Value → Value → H → Option Out) (X : Rn) (l : Nat) (args : List Value) (sl : zf) (h : H) : Option Out :=
    (sl.get p4).bind fun t4 => (sl.get p7).bind fun t7 => uc args fun t75 args => un args (k2 (some (zh h [(.int .i64 0), (.int .i64 0), (.int .i64 0)])) fun t11 h1 =>
    k2 (zq 3 t11 t75 h1) fun _ h2 =>
    zfk l h2 fun h => i_e_11 X l t4 t7 t11 t75 h)
def x_e_10 : Rn → Nat → List Value → zf → H → Option Out := zer x_e_11
theorem e_e_10 : ((fun X l args sl h => z0 X r_e_10 l args sl h) : Rn → Nat → List Value → zf → H → Option Out) = x_e_10 := (show ((fun X l args sl h => z0 X r_e_10 l args sl h) : Rn → Nat → List Value → zf → H → Option Out) = zer (fun X l t4 t7 t11 t75 h => sh X c_e_11 (ziF X l) (setL [p4, p7, p11, p75] [t4, t7, t11, t75]) h) by kernel_rfl).trans (by rw [e_e_11]; rfl)
def ze2 (i_e_9 : Rn → Z → Z → Value → Value → Value → Value → Value → Value → Value → Value → Value → Value → Value → H → Option Out) (i_e_2 : Rn → Value → Value → H → Option Out) (i_e_4 : Rn → Z → Value → Value → Value → Value → Value → Value → H → Option Out) (i_e_7 : Rn → Z → Value → Value → Value → Value → Value → Value → Value → Value → H → Option Out) (X : Rn) (z_3 z_8 : Z) (t1 t2 t3 t4 t6 t7 t39 t40 t61 t62 t63 : Value) (h : H) : Option Out :=
    k2 (vBin .lss .other t63 t62 h) fun t64 h1 =>
    br t64
      (k2 (zr 1 t61 t63 h1) fun t65 h2 =>
    k2 (zc t65 h2) fun t66 h3 =>
    k2 (some (t66, h3)) fun t10 h4 =>
    k2 (zc t7 h4) fun t67 h5 =>
    k2 (zr 1 t67 (.int .i64 0) h5) fun t68 h6 =>
    k2 (zc t68 h6) fun t69 h7 =>
    k2 (some (t10, h7)) fun t70 h8 =>
    k2 (zr 1 t69 t70 h8) fun t71 h9 =>
    k2 (zq 1 t71 (.bool true) h9) fun _ h10 =>
    k2 (zj 3 t1 h10) fun t72 h11 =>
    k2 (some (t10, h11)) fun t73 h12 =>
    k2 (X.call (.func (.func n_D) #[] #[]) [t72, t73] h12) fun t74 h13 =>
    (isFn t74).bind fun fv => k2 (X.call fv [.func (.yield h13.next) #[] #[]] (h13.new (.loop .ready none (setL [p4, p7] [t4, t7]) r_e_10))) fun _ h14 =>
    rgP h13.next h14 (fun h15 => i_e_9 X z_3 z_8 t1 t2 t3 t4 t6 t7 t39 t40 t61 t62 t63 h15) (fun i h15 => bx i 8 (i_e_9 X z_3 z_8 t1 t2 t3 t4 t6 t7 t39 t40 t61 t62 t63 h15) (bx i 7 (i_e_9 X z_3 z_8 t1 t2 t3 t4 t6 t7 t39 t40 t61 t62 t63 h15) (bx i 6 (i_e_7 X z_3 t1 t2 t3 t4 t6 t7 t39 t40 h15) (bx i 3 (i_e_4 X z_3 t1 t2 t3 t4 t39 t40 h15) (bx i 2 (i_e_2 X t2 t3 h15) (none)))))) (fun h15 => (vRes (some 3) t2 h15).bind fun r0 => some (.val (zg [r0]) h15)))
      (i_e_7 X z_3 t1 t2 t3 t4 t6 t7 t39 t40 h1)
def x_e_8 : Rn → Z → Z → Value → Value → Value → Value → Value → Value → Value → Value → Value → Value → Value → H → Option Out := ze2 x_e_9 x_e_2 x_e_4 x_e_7
theorem e_e_8 : ((fun X z_3 z_8 t1 t2 t3 t4 t6 t7 t39 t40 t61 t62 t63 h => sh X c_e_8 (KZ_e_8 X z_3 z_8) (setL [p1, p2, p3, p4, p6, p7, p39, p40, p61, p62, p63] [t1, t2, t3, t4, t6, t7, t39, t40, t61, t62, t63]) h) : Rn → Z → Z → Value → Value → Value → Value → Value → Value → Value → Value → Value → Value → Value → H → Option Out) = x_e_8 := (show ((fun X z_3 z_8 t1 t2 t3 t4 t6 t7 t39 t40 t61 t62 t63 h => sh X c_e_8 (KZ_e_8 X z_3 z_8) (setL [p1, p2, p3, p4, p6, p7, p39, p40, p61, p62, p63] [t1, t2, t3, t4, t6, t7, t39, t40, t61, t62, t63]) h) : Rn → Z → Z → Value → Value → Value → Value → Value → Value → Value → Value → Value → Value → Value → H → Option Out) = ze2 (fun X z_3 z_8 t1 t2 t3 t4 t6 t7 t39 t40 t61 t62 t63 h => sh X c_e_9 (KZ_e_9 X z_3 z_8) (setL [p1, p2, p3, p4, p6, p7, p39, p40, p61, p62, p63] [t1, t2, t3, t4, t6, t7, t39, t40, t61, t62, t63]) h) (fun X t2 t3 h => sh X c_e_2 (KZ_e_2 X) (setL [p2, p3] [t2, t3]) h) (fun X z_3 t1 t2 t3 t4 t39 t40 h => sh X c_e_4 (KZ_e_4 X z_3) (setL [p1, p2, p3, p4, p39, p40] [t1, t2, t3, t4, t39, t40]) h) (fun X z_3 t1 t2 t3 t4 t6 t7 t39 t40 h => sh X c_e_7 (ziE X z_3) (setL [p1, p2, p3, p4, p6, p7, p39, p40] [t1, t2, t3, t4, t6, t7, t39, t40]) h) by kernel_rfl).trans (by rw [e_e_9, e_e_2, e_e_4, e_e_7]; rfl)
def ze5 (i_e_8 : Rn → Z → Z → Value → Value → Value → Value → Value → Value → Value → Value → Value → Value → Value → H → Option Out) (X : Rn) (z_3 : Z) (t1 t2 t3 t4 t6 t7 t39 t40 : Value) (h : H) : Option Out :=
    k2 (zc t4 h) fun t58 h1 =>
    k2 (some (t6, h1)) fun t59 h2 =>
    k2 (zr 1 t58 t59 h2) fun t60 h3 =>
    k2 (zc t60 h3) fun t61 h4 =>
    k2 (bltV h4 .len [t61]) fun t62 h5 =>
    k2 (some ((.int .i64 0), h5)) fun t63 h6 =>
    X.loop [p1, p2, p3, p4, p6, p7, p39, p40, p61, p62, p63] c_e_8 (kBlk 6 (kSeq X c_e_7 [p1, p2, p3, p4, p6, p7, p39, p40] (ziE X z_3))) (fun z_8 vs h => uc vs fun t1 vs => uc vs fun t2 vs => uc vs fun t3 vs => uc vs fun t4 vs => uc vs fun t6 vs => uc vs fun t7 vs => uc vs fun t39 vs => uc vs fun t40 vs => uc vs fun t61 vs => uc vs fun t62 vs => uc vs fun t63 vs => un vs (i_e_8 X z_3 z_8 t1 t2 t3 t4 t6 t7 t39 t40 t61 t62 t63 h)) [t1, t2, t3, t4, t6, t7, t39, t40, t61, t62, t63] h6
def x_e_5 : Rn → Z → Value → Value → Value → Value → Value → Value → Value → Value → H → Option Out := ze5 x_e_8
theorem e_e_5 : ((fun X z_3 t1 t2 t3 t4 t6 t7 t39 t40 h => sh X c_e_5 (zjv X z_3) (setL [p1, p2, p3, p4, p6, p7, p39, p40] [t1, t2, t3, t4, t6, t7, t39, t40]) h) : Rn → Z → Value → Value → Value → Value → Value → Value → Value → Value → H → Option Out) = x_e_5 := (show ((fun X z_3 t1 t2 t3 t4 t6 t7 t39 t40 h => sh X c_e_5 (zjv X z_3) (setL [p1, p2, p3, p4, p6, p7, p39, p40] [t1, t2, t3, t4, t6, t7, t39, t40]) h) : Rn → Z → Value → Value → Value → Value → Value → Value → Value → Value → H → Option Out) = ze5 (fun X z_3 z_8 t1 t2 t3 t4 t6 t7 t39 t40 t61 t62 t63 h => sh X c_e_8 (KZ_e_8 X z_3 z_8) (setL [p1, p2, p3, p4, p6, p7, p39, p40, p61, p62, p63] [t1, t2, t3, t4, t6, t7, t39, t40, t61, t62, t63]) h) by kernel_rfl).trans (by rw [e_e_8]; rfl)
def ze4 (i_e_5 : Rn → Z → Value → Value → Value → Value → Value → Value → Value → Value → H → Option Out) (X : Rn) (z_3 z_6 : Z) (t1 t2 t3 t4 t6 t7 t39 t40 t47 t48 : Value) (h : H) : Option Out :=
    k2 (vBin .lss .other t48 t47 h) fun t49 h1 =>
    br t49
      (k2 (some (t48, h1)) fun t50 h2 =>
    k2 (some (t50, h2)) fun t8 h3 =>
    k2 (rdF (fun b => zc t7 b) 0 h3 [(0, h3)]) fun t51 h4 =>
    k2 (some (t8, h4)) fun t52 h5 =>
    k2 (zd 0 t1 h5) fun t53 h6 =>
    k2 (rdF (fun b => zc t53 b) 0 h6 [(0, h3)]) fun t54 h7 =>
    k2 (zbu 1 [(.bool false)] h7 t54 t54) fun t55 h8 =>
    k2 (zr 1 t51 t52 h8) fun t56 h9 =>
    k2 (zq 1 t56 t55 h9) fun _ h10 =>
    k2 (vBin .add .other t48 (.int .i64 1) h10) fun t57 h11 =>
    k2 (some (t57, h11)) fun t48_12 h13 =>
    z_6 [t1, t2, t3, t4, t6, t7, t39, t40, t47, t48_12] h13)
      (i_e_5 X z_3 t1 t2 t3 t4 t6 t7 t39 t40 h1)
def x_e_6 : Rn → Z → Z → Value → Value → Value → Value → Value → Value → Value → Value → Value → Value → H → Option Out := ze4 x_e_5
theorem e_e_6 : ((fun X z_3 z_6 t1 t2 t3 t4 t6 t7 t39 t40 t47 t48 h => sh X c_e_6 (KZ_e_6 X z_3 z_6) (setL [p1, p2, p3, p4, p6, p7, p39, p40, p47, p48] [t1, t2, t3, t4, t6, t7, t39, t40, t47, t48]) h) : Rn → Z → Z → Value → Value → Value → Value → Value → Value → Value → Value → Value → Value → H → Option Out) = x_e_6 := (show ((fun X z_3 z_6 t1 t2 t3 t4 t6 t7 t39 t40 t47 t48 h => sh X c_e_6 (KZ_e_6 X z_3 z_6) (setL [p1, p2, p3, p4, p6, p7, p39, p40, p47, p48] [t1, t2, t3, t4, t6, t7, t39, t40, t47, t48]) h) : Rn → Z → Z → Value → Value → Value → Value → Value → Value → Value → Value → Value → Value → H → Option Out) = ze4 (fun X z_3 t1 t2 t3 t4 t6 t7 t39 t40 h => sh X c_e_5 (zjv X z_3) (setL [p1, p2, p3, p4, p6, p7, p39, p40] [t1, t2, t3, t4, t6, t7, t39, t40]) h) by kernel_rfl).trans (by rw [e_e_5]; rfl)
def ze6 (i_e_6 : Rn → Z → Z → Value → Value → Value → Value → Value → Value → Value → Value → Value → Value → H → Option Out) (i_e_2 : Rn → Value → Value → H → Option Out) (X : Rn) (z_3 : Z) (t1 t2 t3 t4 t39 t40 : Value) (h : H) : Option Out :=
    k2 (vBin .lss .other t40 t39 h) fun t41 h1 =>
    br t41
      (k2 (some (t40, h1)) fun t42 h2 =>
    k2 (some (t42, h2)) fun t6 h3 =>
    k2 (zd 1 t1 h3) fun t43 h4 =>
    k2 (zc t43 h4) fun t44 h5 =>
    k2 (zbu 24 [(.slice none 0 0)] h5 t44 t44) fun t45 h6 =>
    k2 (some (zh h6 [(.slice none 0 0)])) fun t7 h7 =>
    k2 (zq 1 t7 t45 h7) fun _ h8 =>
    k2 (zc t7 h8) fun t46 h9 =>
    k2 (bltV h9 .len [t46]) fun t47 h10 =>
    k2 (some ((.int .i64 0), h10)) fun t48 h11 =>
    X.loop [p1, p2, p3, p4, p6, p7, p39, p40, p47, p48] c_e_6 (kBlk 4 (kSeq X c_e_5 [p1, p2, p3, p4, p6, p7, p39, p40] (zjv X z_3))) (fun z_6 vs h => uc vs fun t1 vs => uc vs fun t2 vs => uc vs fun t3 vs => uc vs fun t4 vs => uc vs fun t6 vs => uc vs fun t7 vs => uc vs fun t39 vs => uc vs fun t40 vs => uc vs fun t47 vs => uc vs fun t48 vs => un vs (i_e_6 X z_3 z_6 t1 t2 t3 t4 t6 t7 t39 t40 t47 t48 h)) [t1, t2, t3, t4, t6, t7, t39, t40, t47, t48] h11)
      (i_e_2 X t2 t3 h1)
def x_e_3 : Rn → Z → Value → Value → Value → Value → Value → Value → H → Option Out := ze6 x_e_6 x_e_2
theorem e_e_3 : ((fun X z_3 t1 t2 t3 t4 t39 t40 h => sh X c_e_3 (KZ_e_3 X z_3) (setL [p1, p2, p3, p4, p39, p40] [t1, t2, t3, t4, t39, t40]) h) : Rn → Z → Value → Value → Value → Value → Value → Value → H → Option Out) = x_e_3 := (show ((fun X z_3 t1 t2 t3 t4 t39 t40 h => sh X c_e_3 (KZ_e_3 X z_3) (setL [p1, p2, p3, p4, p39, p40] [t1, t2, t3, t4, t39, t40]) h) : Rn → Z → Value → Value → Value → Value → Value → Value → H → Option Out) = ze6 (fun X z_3 z_6 t1 t2 t3 t4 t6 t7 t39 t40 t47 t48 h => sh X c_e_6 (KZ_e_6 X z_3 z_6) (setL [p1, p2, p3, p4, p6, p7, p39, p40, p47, p48] [t1, t2, t3, t4, t6, t7, t39, t40, t47, t48]) h) (fun X t2 t3 h => sh X c_e_2 (KZ_e_2 X) (setL [p2, p3] [t2, t3]) h) by kernel_rfl).trans (by rw [e_e_6, e_e_2]; rfl)
def ze8 (i_e_3 : Rn → Z → Value → Value → Value → Value → Value → Value → H → Option Out) (X : Rn) (t1 t2 t3 t4 : Value) (h : H) : Option Out :=
    k2 (zd 0 t1 h) fun t38 h1 =>
    k2 (zc t38 h1) fun t39 h2 =>
    k2 (some ((.int .i64 0), h2)) fun t40 h3 =>
    X.loop [p1, p2, p3, p4, p39, p40] c_e_3 (kBlk 2 (kSeq X c_e_2 [p2, p3] (KZ_e_2 X))) (fun z_3 vs h => uc vs fun t1 vs => uc vs fun t2 vs => uc vs fun t3 vs => uc vs fun t4 vs => uc vs fun t39 vs => uc vs fun t40 vs => un vs (i_e_3 X z_3 t1 t2 t3 t4 t39 t40 h)) [t1, t2, t3, t4, t39, t40] h3
def x_e_0 : Rn → Value → Value → Value → Value → H → Option Out := ze8 x_e_3
theorem e_e_0 : ((fun X t1 t2 t3 t4 h => sh X c_e_0 (zjw X) (setL [p1, p2, p3, p4] [t1, t2, t3, t4]) h) : Rn → Value → Value → Value → Value → H → Option Out) = x_e_0 := (show ((fun X t1 t2 t3 t4 h => sh X c_e_0 (zjw X) (setL [p1, p2, p3, p4] [t1, t2, t3, t4]) h) : Rn → Value → Value → Value → Value → H → Option Out) = ze8 (fun X z_3 t1 t2 t3 t4 t39 t40 h => sh X c_e_3 (KZ_e_3 X z_3) (setL [p1, p2, p3, p4, p39, p40] [t1, t2, t3, t4, t39, t40]) h) by kernel_rfl).trans (by rw [e_e_3]; rfl)
def ze7 (i_e_0 : Rn → Value → Value → Value → Value → H → Option Out) (X : Rn) (z_1 : Z) (t1 t2 t3 t4 t27 t28 : Value) (h : H) : Option Out :=
    k2 (vBin .lss .other t28 t27 h) fun t29 h1 =>
    br t29
      (k2 (some (t28, h1)) fun t30 h2 =>
    k2 (some (t30, h2)) fun t5 h3 =>
    k2 (rdF (fun b => zj 3 t1 b) 0 h3 [(0, h3)]) fun t33 h4 =>
    k2 (some (t5, h4)) fun t34 h5 =>
    k2 (X.call (.func (.func n_t) #[] #[]) [t33, t34] h5) fun t35 h6 =>
    k2 (rdF (fun b => zc t4 b) 0 h6 [(1, h6), (0, h3)]) fun t31 h7 =>
    k2 (some (t5, h7)) fun t32 h8 =>
    k2 (zr 1 t31 t32 h8) fun t36 h9 =>
    k2 (zq 1 t36 t35 h9) fun _ h10 =>
    k2 (vBin .add .other t28 (.int .i64 1) h10) fun t37 h11 =>
    k2 (some (t37, h11)) fun t28_12 h13 =>
    z_1 [t1, t2, t3, t4, t27, t28_12] h13)
      (i_e_0 X t1 t2 t3 t4 h1)
def x_e_1 : Rn → Z → Value → Value → Value → Value → Value → Value → H → Option Out := ze7 x_e_0
theorem e_e_1 : ((fun X z_1 t1 t2 t3 t4 t27 t28 h => sh X c_e_1 (KZ_e_1 X z_1) (setL [p1, p2, p3, p4, p27, p28] [t1, t2, t3, t4, t27, t28]) h) : Rn → Z → Value → Value → Value → Value → Value → Value → H → Option Out) = x_e_1 := (show ((fun X z_1 t1 t2 t3 t4 t27 t28 h => sh X c_e_1 (KZ_e_1 X z_1) (setL [p1, p2, p3, p4, p27, p28] [t1, t2, t3, t4, t27, t28]) h) : Rn → Z → Value → Value → Value → Value → Value → Value → H → Option Out) = ze7 (fun X t1 t2 t3 t4 h => sh X c_e_0 (zjw X) (setL [p1, p2, p3, p4] [t1, t2, t3, t4]) h) by kernel_rfl).trans (by rw [e_e_0]; rfl)
def zgS (i_e_1 : Rn → Z → Value → Value → Value → Value → Value → Value → H → Option Out) (X : Rn) (args : List Value) (h : H) : Option Out :=
    uc args fun t0 args => un args (k2 (some (zh h (zi t0))) fun t1 h1 =>
    k2 (some (zh h1 [(.int .i64 0), (.int .i64 0), (.slice none 0 0)])) fun t2 h2 =>
    k2 (zd 0 t1 h2) fun t18 h3 =>
    k2 (zc t18 h3) fun t19 h4 =>
    k2 (zd 1 t1 h4) fun t20 h5 =>
    k2 (zc t20 h5) fun t21 h6 =>
    k2 ((zn [(.int .i64 0), (.int .i64 0), (.slice none 0 0)] [(0, 1, t19), (1, 1, t21)]).map fun c => (Value.agg ⟨c⟩, h6)) fun t22 h7 =>
    k2 (some (zh h7 [(.int .i64 0), (.int .i64 0), (.slice none 0 0)])) fun t3 h8 =>
    k2 (zq 3 t3 t22 h8) fun _ h9 =>
    k2 (zd 0 t1 h9) fun t23 h10 =>
    k2 (zc t23 h10) fun t24 h11 =>
    k2 (zbu 24 [(.slice none 0 0)] h11 t24 t24) fun t25 h12 =>
    k2 (some (zh h12 [(.slice none 0 0)])) fun t4 h13 =>
    k2 (zq 1 t4 t25 h13) fun _ h14 =>
    k2 (zd 0 t1 h14) fun t26 h15 =>
    k2 (zc t26 h15) fun t27 h16 =>
    k2 (some ((.int .i64 0), h16)) fun t28 h17 =>
    X.loop [p1, p2, p3, p4, p27, p28] c_e_1 (kBlk 0 (kSeq X c_e_0 [p1, p2, p3, p4] (zjw X))) (fun z_1 vs h => uc vs fun t1 vs => uc vs fun t2 vs => uc vs fun t3 vs => uc vs fun t4 vs => uc vs fun t27 vs => uc vs fun t28 vs => un vs (i_e_1 X z_1 t1 t2 t3 t4 t27 t28 h)) [t1, t2, t3, t4, t27, t28] h17)
def x_e : Rn → List Value → H → Option Out := zgS x_e_1
theorem e_e : ((fun X args h => zl X 1 f_e args h) : Rn → List Value → H → Option Out) = x_e := (show ((fun X args h => zl X 1 f_e args h) : Rn → List Value → H → Option Out) = zgS (fun X z_1 t1 t2 t3 t4 t27 t28 h => sh X c_e_1 (KZ_e_1 X z_1) (setL [p1, p2, p3, p4, p27, p28] [t1, t2, t3, t4, t27, t28]) h) by kernel_rfl).trans (by rw [e_e_1]; rfl)
def zis (X : Rn) (args : List Value) (h : H) : Option Out :=
    uc args fun t0 args => uc args fun t1 args => un args (k2 (some (zh h (zi t0))) fun t2 h1 =>
    k2 (some (zh h1 (zi t1))) fun t3 h2 =>
    k2 (some ((.int .i64 0), h2)) fun t4 h3 =>
    k2 (zd 0 t2 h3) fun t5 h4 =>
    k2 (rdF (fun b => zc t5 b) 0 h4 [(0, h3)]) fun t6 h5 =>
    k2 (zd 0 t3 h5) fun t7 h6 =>
    k2 (rdF (fun b => zc t7 b) 0 h6 [(0, h3)]) fun t8 h7 =>
    k2 (X.call (.func (.func n_E) #[] #[]) [t6, t8] h7) fun t9 h8 =>
    k2 (zd 2 t2 h8) fun t10 h9 =>
    k2 (rdF (fun b => zc t10 b) 0 h9 [(1, h8), (0, h3)]) fun t11 h10 =>
    k2 (zd 2 t3 h10) fun t12 h11 =>
    k2 (rdF (fun b => zc t12 b) 0 h11 [(1, h8), (0, h3)]) fun t13 h12 =>
    k2 (X.call (.func (.func n_E) #[] #[]) [t11, t13] h12) fun t14 h13 =>
    k2 (zd 1 t2 h13) fun t15 h14 =>
    k2 (rdF (fun b => zc t15 b) 0 h14 [(2, h13), (1, h8), (0, h3)]) fun t16 h15 =>
    k2 (zd 1 t3 h15) fun t17 h16 =>
    k2 (rdF (fun b => zc t17 b) 0 h16 [(2, h13), (1, h8), (0, h3)]) fun t18 h17 =>
    k2 (X.call (.func (.func n_E) #[] #[]) [t16, t18] h17) fun t19 h18 =>
    k2 (zR 3 (zn (zo [(.int .i64 0)] 3) [(0 * 1, 1, t9), (1 * 1, 1, t14), (2 * 1, 1, t19)]) h18) fun t20 h19 =>
    k2 (X.call (.func (.func n_x) #[] #[]) [t20] h19) fun t21 h20 =>
    k2 (some (t21, h20)) fun t4 h21 =>
    some (.val (zg [t4]) h21))
def x_J : Rn → List Value → H → Option Out := zis
theorem e_J : ((fun X args h => zl X 2 f_J args h) : Rn → List Value → H → Option Out) = x_J := by kernel_rfl
def zdJ (X : Rn) (t3 : Value) (h : H) : Option Out :=
    k2 (some (t3, h)) fun t30 h1 =>
    k2 (some (t30, h1)) fun t2 h2 =>
    some (.val (zg [t2]) h2)
def x_w_0 : Rn → Value → H → Option Out := zdJ
theorem e_w_0 : ((fun X t3 h => sh X c_w_0 (KZ_w_0 X) (setL [p3] [t3]) h) : Rn → Value → H → Option Out) = x_w_0 := by kernel_rfl
def zb3 (i_w_0 : Rn → Value → H → Option Out) (X : Rn) (z_1 : Z) (t0 t3 t4 : Value) (h : H) : Option Out :=
    k2 (some (t4, h)) fun t5 h1 =>
    k2 (some (t0, h1)) fun t6 h2 =>
    k2 (bltV h2 .len [t6]) fun t7 h3 =>
    k2 (vBin .lss .other t5 t7 h3) fun t8 h4 =>
    br t8
      (k2 (some (t3, h4)) fun t11 h5 =>
    k2 (some (t0, h5)) fun t12 h6 =>
    k2 (some (t4, h6)) fun t13 h7 =>
    k2 (zr 3 t12 t13 h7) fun t14 h8 =>
    k2 (zI 3 1 t14 (.int .i64 0) h8) fun t15 h9 =>
    k2 (rdF (fun b => zc t15 b) 0 h9 [(0, h4)]) fun t16 h10 =>
    k2 (some (t0, h10)) fun t17 h11 =>
    k2 (some (t4, h11)) fun t18 h12 =>
    k2 (zr 3 t17 t18 h12) fun t19 h13 =>
    k2 (zI 3 1 t19 (.int .i64 1) h13) fun t20 h14 =>
    k2 (rdF (fun b => zc t20 b) 0 h14 [(0, h4)]) fun t21 h15 =>
    k2 (some (t0, h15)) fun t22 h16 =>
    k2 (some (t4, h16)) fun t23 h17 =>
    k2 (zr 3 t22 t23 h17) fun t24 h18 =>
    k2 (zI 3 1 t24 (.int .i64 2) h18) fun t25 h19 =>
    k2 (rdF (fun b => zc t25 b) 0 h19 [(0, h4)]) fun t26 h20 =>
    k2 ((zn [(.int .i64 0), (.int .i64 0), (.int .i64 0)] [(0, 1, t16), (1, 1, t21), (2, 1, t26)]).map fun c => (Value.agg ⟨c⟩, h20)) fun t27 h21 =>
    k2 (zR 1 (zn (zo [(.int .i64 0), (.int .i64 0), (.int .i64 0)] 1) [(0 * 3, 3, t27)]) h21) fun t28 h22 =>
    k2 (bltV h22 (.append 3 24) [t11, t28]) fun t29 h23 =>
    k2 (some (t29, h23)) fun t3_24 h25 =>
    k2 (some (t4, h25)) fun t9 h26 =>
    k2 (vBin .add .other t9 (.int .i64 1) h26) fun t10 h27 =>
    k2 (some (t10, h27)) fun t4_28 h29 =>
    z_1 [t0, t3_24, t4_28] h29)
      (i_w_0 X t3 h4)
def x_w_1 : Rn → Z → Value → Value → Value → H → Option Out := zb3 x_w_0
theorem e_w_1 : ((fun X z_1 t0 t3 t4 h => sh X c_w_1 (KZ_w_1 X z_1) (setL [p0, p3, p4] [t0, t3, t4]) h) : Rn → Z → Value → Value → Value → H → Option Out) = x_w_1 := (show ((fun X z_1 t0 t3 t4 h => sh X c_w_1 (KZ_w_1 X z_1) (setL [p0, p3, p4] [t0, t3, t4]) h) : Rn → Z → Value → Value → Value → H → Option Out) = zb3 (fun X t3 h => sh X c_w_0 (KZ_w_0 X) (setL [p3] [t3]) h) by kernel_rfl).trans (by rw [e_w_0]; rfl)
def zcr (i_w_1 : Rn → Z → Value → Value → Value → H → Option Out) (X : Rn) (args : List Value) (h : H) : Option Out :=
    uc args fun t0 args => un args (k2 (some ((.slice none 0 0), h)) fun t2 h1 =>
    k2 (some ((.slice none 0 0), h1)) fun t3 h2 =>
    k2 (some ((.int .i64 0), h2)) fun t4 h3 =>
    X.loop [p0, p3, p4] c_w_1 (kBlk 0 (kSeq X c_w_0 [p3] (KZ_w_0 X))) (fun z_1 vs h => uc vs fun t0 vs => uc vs fun t3 vs => uc vs fun t4 vs => un vs (i_w_1 X z_1 t0 t3 t4 h)) [t0, t3, t4] h3)
def x_w : Rn → List Value → H → Option Out := zcr x_w_1
theorem e_w : ((fun X args h => zl X 1 f_w args h) : Rn → List Value → H → Option Out) = x_w := (show ((fun X args h => zl X 1 f_w args h) : Rn → List Value → H → Option Out) = zcr (fun X z_1 t0 t3 t4 h => sh X c_w_1 (KZ_w_1 X z_1) (setL [p0, p3, p4] [t0, t3, t4]) h) by kernel_rfl).trans (by rw [e_w_1]; rfl)
def zdX (X : Rn) (t4 t5 : Value) (h : H) : Option Out :=
    k2 (zj 3 t5 h) fun t50 h1 =>
    k2 (zq 3 t4 t50 h1) fun _ h2 =>
    (vRes (some 3) t4 h2).bind fun r0 => some (.val (zg [r0]) h2)
def x_h_0 : Rn → Value → Value → H → Option Out := zdX
theorem e_h_0 : ((fun X t4 t5 h => sh X zg0 (KZ_h_0 X) (setL [p4, p5] [t4, t5]) h) : Rn → Value → Value → H → Option Out) = x_h_0 := by kernel_rfl
def zb8 (i_h_0 : Rn → Value → Value → H → Option Out) (X : Rn) (z_1 : Z) (t2 t3 t4 t5 t6 : Value) (h : H) : Option Out :=
    k2 (some (t6, h)) fun t20 h1 =>
    k2 (zd 2 t3 h1) fun t21 h2 =>
    k2 (zc t21 h2) fun t22 h3 =>
    k2 (bltV h3 .len [t22]) fun t23 h4 =>
    k2 (vBin .lss .other t20 t23 h4) fun t24 h5 =>
    br t24
      (k2 (zd 2 t3 h5) fun t27 h6 =>
    k2 (zc t27 h6) fun t28 h7 =>
    k2 (some (t6, h7)) fun t29 h8 =>
    k2 (zr 3 t28 t29 h8) fun t30 h9 =>
    k2 (zj 3 t30 h9) fun t31 h10 =>
    k2 (some (zh h10 [(.int .i64 0), (.int .i64 0), (.int .i64 0)])) fun t7 h11 =>
    k2 (zq 3 t7 t31 h11) fun _ h12 =>
    k2 (zd 2 t5 h12) fun t32 h13 =>
    k2 (zc t32 h13) fun t33 h14 =>
    k2 (zd 0 t7 h14) fun t34 h15 =>
    k2 (zc t34 h15) fun t35 h16 =>
    k2 (zd 0 t2 h16) fun t36 h17 =>
    k2 (zc t36 h17) fun t37 h18 =>
    k2 (vBin .add .other t35 t37 h18) fun t38 h19 =>
    k2 (zd 1 t7 h19) fun t39 h20 =>
    k2 (zc t39 h20) fun t40 h21 =>
    k2 (zd 0 t2 h21) fun t41 h22 =>
    k2 (zc t41 h22) fun t42 h23 =>
    k2 (vBin .add .other t40 t42 h23) fun t43 h24 =>
    k2 (zd 2 t7 h24) fun t44 h25 =>
    k2 (zc t44 h25) fun t45 h26 =>
    k2 ((zn [(.int .i64 0), (.int .i64 0), (.int .i64 0)] [(0, 1, t38), (1, 1, t43), (2, 1, t45)]).map fun c => (Value.agg ⟨c⟩, h26)) fun t46 h27 =>
    k2 (zR 1 (zn (zo [(.int .i64 0), (.int .i64 0), (.int .i64 0)] 1) [(0 * 3, 3, t46)]) h27) fun t47 h28 =>
    k2 (bltV h28 (.append 3 24) [t33, t47]) fun t48 h29 =>
    k2 (zd 2 t5 h29) fun t49 h30 =>
    k2 (zq 1 t49 t48 h30) fun _ h31 =>
    k2 (some (t6, h31)) fun t25 h32 =>
    k2 (vBin .add .other t25 (.int .i64 1) h32) fun t26 h33 =>
    k2 (some (t26, h33)) fun t6_34 h35 =>
    z_1 [t2, t3, t4, t5, t6_34] h35)
      (i_h_0 X t4 t5 h5)
def x_h_1 : Rn → Z → Value → Value → Value → Value → Value → H → Option Out := zb8 x_h_0
theorem e_h_1 : ((fun X z_1 t2 t3 t4 t5 t6 h => sh X zgZ (KZ_h_1 X z_1) (setL [p2, p3, p4, p5, p6] [t2, t3, t4, t5, t6]) h) : Rn → Z → Value → Value → Value → Value → Value → H → Option Out) = x_h_1 := (show ((fun X z_1 t2 t3 t4 t5 t6 h => sh X zgZ (KZ_h_1 X z_1) (setL [p2, p3, p4, p5, p6] [t2, t3, t4, t5, t6]) h) : Rn → Z → Value → Value → Value → Value → Value → H → Option Out) = zb8 (fun X t4 t5 h => sh X zg0 (KZ_h_0 X) (setL [p4, p5] [t4, t5]) h) by kernel_rfl).trans (by rw [e_h_0]; rfl)
def zcy (i_h_1 : Rn → Z → Value → Value → Value → Value → Value → H → Option Out) (X : Rn) (args : List Value) (h : H) : Option Out :=
    uc args fun t0 args => uc args fun t1 args => un args (k2 (some (zh h (zi t0))) fun t2 h1 =>
    k2 (some (zh h1 (zi t1))) fun t3 h2 =>
    k2 (some (zh h2 [(.int .i64 0), (.int .i64 0), (.slice none 0 0)])) fun t4 h3 =>
    k2 (zR 0 (zn (zo [(.int .i64 0), (.int .i64 0), (.int .i64 0)] 0) []) h3) fun t15 h4 =>
    k2 (zd 2 t2 h4) fun t16 h5 =>
    k2 (rdF (fun b => zc t16 b) 0 h5 [(0, h3)]) fun t17 h6 =>
    k2 (bltV h6 (.append 3 24) [t15, t17]) fun t18 h7 =>
    k2 (zd 0 t2 h7) fun t8 h8 =>
    k2 (rdF (fun b => zc t8 b) 0 h8 [(1, h7), (0, h3)]) fun t9 h9 =>
    k2 (zd 0 t3 h9) fun t10 h10 =>
    k2 (rdF (fun b => zc t10 b) 0 h10 [(1, h7), (0, h3)]) fun t11 h11 =>
    k2 (vBin .add .other t9 t11 h11) fun t12 h12 =>
    k2 (zd 1 t2 h12) fun t13 h13 =>
    k2 (rdF (fun b => zc t13 b) 0 h13 [(1, h7), (0, h3)]) fun t14 h14 =>
    k2 ((zn [(.int .i64 0), (.int .i64 0), (.slice none 0 0)] [(0, 1, t12), (1, 1, t14), (2, 1, t18)]).map fun c => (Value.agg ⟨c⟩, h14)) fun t19 h15 =>
    k2 (some (zh h15 [(.int .i64 0), (.int .i64 0), (.slice none 0 0)])) fun t5 h16 =>
    k2 (zq 3 t5 t19 h16) fun _ h17 =>
    k2 (some ((.int .i64 0), h17)) fun t6 h18 =>
    X.loop [p2, p3, p4, p5, p6] zgZ (kBlk 0 (kSeq X zg0 [p4, p5] (KZ_h_0 X))) (fun z_1 vs h => uc vs fun t2 vs => uc vs fun t3 vs => uc vs fun t4 vs => uc vs fun t5 vs => uc vs fun t6 vs => un vs (i_h_1 X z_1 t2 t3 t4 t5 t6 h)) [t2, t3, t4, t5, t6] h18)
def x_h : Rn → List Value → H → Option Out := zcy x_h_1
theorem e_h : ((fun X args h => zl X 2 f_h args h) : Rn → List Value → H → Option Out) = x_h := (show ((fun X args h => zl X 2 f_h args h) : Rn → List Value → H → Option Out) = zcy (fun X z_1 t2 t3 t4 t5 t6 h => sh X zgZ (KZ_h_1 X z_1) (setL [p2, p3, p4, p5, p6] [t2, t3, t4, t5, t6]) h) by kernel_rfl).trans (by rw [e_h_1]; rfl)
def zir (X : Rn) (args : List Value) (h : H) : Option Out :=
    uc args fun t0 args => uc args fun t1 args => un args (k2 (some (zh h (zi t0))) fun t2 h1 =>
    k2 (some ((.bool false), h1)) fun t4 h2 =>
    k2 (zj 3 t2 h2) fun t5 h3 =>
    k2 (X.call (.func (.func n_o) #[] #[]) [t5] h3) fun t6 h4 =>
    k2 (vBin .eql .other t6 (.int .i64 0) h4) fun t7 h5 =>
    k2 (some (t7, h5)) fun t8 h6 =>
    k2 (gd t8 true h6 (some (t1, h6))) fun t9 h7 =>
    k2 (gd t8 true h7 (vBin .geq .other t9 (.int .i64 0) h7)) fun t10 h8 =>
    k2 (zD t8 t10 (.bool false) h8) fun t11 h9 =>
    k2 (some (t11, h9)) fun t12 h10 =>
    k2 (gd t12 true h10 (some (t1, h10))) fun t13 h11 =>
    k2 (gd t12 true h11 (zd 0 t2 h11)) fun t14 h12 =>
    k2 (gd t12 true h12 (zc t14 h12)) fun t15 h13 =>
    k2 (gd t12 true h13 (vBin .lss .other t13 t15 h13)) fun t16 h14 =>
    k2 (zD t12 t16 (.bool false) h14) fun t17 h15 =>
    k2 (some (t17, h15)) fun t4 h16 =>
    some (.val (zg [t4]) h16))
def x_P : Rn → List Value → H → Option Out := zir
theorem e_P : ((fun X args h => zl X 2 f_P args h) : Rn → List Value → H → Option Out) = x_P := by kernel_rfl
def ziv (X : Rn) (z_0 : Z) (t1 t3 t4 : Value) (h : H) : Option Out :=
    k2 (some (t4, h)) fun t15 h1 =>
    k2 (vBin .add .other t15 (.int .i64 1) h1) fun t16 h2 =>
    k2 (some (t16, h2)) fun t4_3 h4 =>
    z_0 [t1, t3, t4_3] h4
def x_d_1 : Rn → Z → Value → Value → Value → H → Option Out := ziv
theorem e_d_1 : ((fun X z_0 t1 t3 t4 h => sh X c_d_1 (KZ_d_1 X z_0) (setL [p1, p3, p4] [t1, t3, t4]) h) : Rn → Z → Value → Value → Value → H → Option Out) = x_d_1 := by kernel_rfl
def zey (i_d_1 : Rn → Z → Value → Value → Value → H → Option Out) (X : Rn) (z_0 z_8 : Z) (t1 t3 t4 t70 t71 t72 : Value) (h : H) : Option Out :=
    k2 (vBin .lss .other t72 t71 h) fun t73 h1 =>
    br t73
      (k2 (zr 2 t70 t72 h1) fun t74 h2 =>
    k2 (zj 2 t74 h2) fun t75 h3 =>
    k2 (some (zh h3 [(.int .i64 0), (.int .i64 0)])) fun t13 h4 =>
    k2 (zq 2 t13 t75 h4) fun _ h5 =>
    k2 (some (t3, h5)) fun t76 h6 =>
    k2 (rdF (fun b => zj 2 t13 b) 0 h6 [(0, h5)]) fun t77 h7 =>
    k2 (some (t4, h7)) fun t84 h8 =>
    k2 (zdN (.leaves [0, 1]) h8 t77 t84 t76) fun _ h9 =>
    k2 (some (t3, h9)) fun t78 h10 =>
    k2 (zI 2 1 t13 (.int .i64 1) h10) fun t79 h11 =>
    k2 (rdF (fun b => zc t79 b) 0 h11 [(1, h9), (0, h5)]) fun t80 h12 =>
    k2 (zI 2 1 t13 (.int .i64 0) h12) fun t81 h13 =>
    k2 (rdF (fun b => zc t81 b) 0 h13 [(1, h9), (0, h5)]) fun t82 h14 =>
    k2 ((zn [(.int .i64 0), (.int .i64 0)] [(0, 1, t80), (1, 1, t82)]).map fun c => (Value.agg ⟨c⟩, h14)) fun t83 h15 =>
    k2 (some (t4, h15)) fun t85 h16 =>
    k2 (zdN (.leaves [0, 1]) h16 t83 t85 t78) fun _ h17 =>
    k2 (vBin .add .other t72 (.int .i64 1) h17) fun t86 h18 =>
    k2 (some (t86, h18)) fun t72_19 h20 =>
    z_8 [t1, t3, t4, t70, t71, t72_19] h20)
      (i_d_1 X z_0 t1 t3 t4 h1)
def x_d_8 : Rn → Z → Z → Value → Value → Value → Value → Value → Value → H → Option Out := zey x_d_1
theorem e_d_8 : ((fun X z_0 z_8 t1 t3 t4 t70 t71 t72 h => sh X zg1 (KZ_d_8 X z_0 z_8) (setL [p1, p3, p4, p70, p71, p72] [t1, t3, t4, t70, t71, t72]) h) : Rn → Z → Z → Value → Value → Value → Value → Value → Value → H → Option Out) = x_d_8 := (show ((fun X z_0 z_8 t1 t3 t4 t70 t71 t72 h => sh X zg1 (KZ_d_8 X z_0 z_8) (setL [p1, p3, p4, p70, p71, p72] [t1, t3, t4, t70, t71, t72]) h) : Rn → Z → Z → Value → Value → Value → Value → Value → Value → H → Option Out) = zey (fun X z_0 t1 t3 t4 h => sh X c_d_1 (KZ_d_1 X z_0) (setL [p1, p3, p4] [t1, t3, t4]) h) by kernel_rfl).trans (by rw [e_d_1]; rfl)
def zeC (i_d_8 : Rn → Z → Z → Value → Value → Value → Value → Value → Value → H → Option Out) (X : Rn) (z_0 : Z) (t1 t3 t4 t5 : Value) (h : H) : Option Out :=
    k2 (some (t5, h)) fun t66 h1 =>
    k2 (bltV h1 .len [t66]) fun t67 h2 =>
    k2 (vBin .eql .other t67 (.int .i64 0) h2) fun t68 h3 =>
    br t68
      (k2 (some (t3, h3)) fun t69 h4 =>
    k2 (some (t69, h4)) fun t2 h5 =>
    some (.val (zg [t2]) h5))
      (k2 (some (t5, h3)) fun t70 h6 =>
    k2 (bltV h6 .len [t70]) fun t71 h7 =>
    k2 (some ((.int .i64 0), h7)) fun t72 h8 =>
    X.loop [p1, p3, p4, p70, p71, p72] zg1 (kBlk 6 (ziG X z_0)) (fun z_8 vs h => uc vs fun t1 vs => uc vs fun t3 vs => uc vs fun t4 vs => uc vs fun t70 vs => uc vs fun t71 vs => uc vs fun t72 vs => un vs (i_d_8 X z_0 z_8 t1 t3 t4 t70 t71 t72 h)) [t1, t3, t4, t70, t71, t72] h8)
def x_d_2 : Rn → Z → Value → Value → Value → Value → H → Option Out := zeC x_d_8
theorem e_d_2 : ((fun X z_0 t1 t3 t4 t5 h => sh X zgo (ziG X z_0) (setL [p1, p3, p4, p5] [t1, t3, t4, t5]) h) : Rn → Z → Value → Value → Value → Value → H → Option Out) = x_d_2 := (show ((fun X z_0 t1 t3 t4 t5 h => sh X zgo (ziG X z_0) (setL [p1, p3, p4, p5] [t1, t3, t4, t5]) h) : Rn → Z → Value → Value → Value → Value → H → Option Out) = zeC (fun X z_0 z_8 t1 t3 t4 t70 t71 t72 h => sh X zg1 (KZ_d_8 X z_0 z_8) (setL [p1, p3, p4, p70, p71, p72] [t1, t3, t4, t70, t71, t72]) h) by kernel_rfl).trans (by rw [e_d_8]; rfl)
def ziu (X : Rn) (z_0 z_3 : Z) (t1 t3 t4 t5 t18 t19 : Value) (h : H) : Option Out :=
    k2 (vBin .add .other t19 (.int .i64 1) h) fun t65 h1 =>
    k2 (some (t65, h1)) fun t19_2 h3 =>
    z_3 [t1, t3, t4, t5, t18, t19_2] h3
def x_d_4 : Rn → Z → Z → Value → Value → Value → Value → Value → Value → H → Option Out := ziu
theorem e_d_4 : ((fun X z_0 z_3 t1 t3 t4 t5 t18 t19 h => sh X zg3 (KZ_d_4 X z_0 z_3) (setL [p1, p3, p4, p5, p18, p19] [t1, t3, t4, t5, t18, t19]) h) : Rn → Z → Z → Value → Value → Value → Value → Value → Value → H → Option Out) = x_d_4 := by kernel_rfl
def zit (X : Rn) (z_0 z_3 z_5 : Z) (t1 t3 t4 t5 t6 t18 t19 t22 t23 : Value) (h : H) : Option Out :=
    k2 (vBin .add .other t23 (.int .i64 1) h) fun t64 h1 =>
    k2 (some (t64, h1)) fun t23_2 h3 =>
    z_5 [t1, t3, t4, t5, t6, t18, t19, t22, t23_2] h3
def x_d_6 : Rn → Z → Z → Z → Value → Value → Value → Value → Value → Value → Value → Value → Value → H → Option Out := zit
theorem e_d_6 : ((fun X z_0 z_3 z_5 t1 t3 t4 t5 t6 t18 t19 t22 t23 h => sh X zib (KZ_d_6 X z_0 z_3 z_5) (setL [p1, p3, p4, p5, p6, p18, p19, p22, p23] [t1, t3, t4, t5, t6, t18, t19, t22, t23]) h) : Rn → Z → Z → Z → Value → Value → Value → Value → Value → Value → Value → Value → Value → H → Option Out) = x_d_6 := by kernel_rfl
def zez (i_d_6 : Rn → Z → Z → Z → Value → Value → Value → Value → Value → Value → Value → Value → Value → H → Option Out) (X : Rn) (z_0 z_3 z_5 : Z) (t1 t3 t4 t5 t6 t7 t11 t18 t19 t22 t23 : Value) (h : H) : Option Out :=
    k2 (some (t11, h)) fun t57 h1 =>
    br t57
      (k2 (some (t5, h1)) fun t58 h2 =>
    k2 (some (t6, h2)) fun t59 h3 =>
    k2 (some (t7, h3)) fun t60 h4 =>
    k2 ((zn [(.int .i64 0), (.int .i64 0)] [(0, 1, t59), (1, 1, t60)]).map fun c => (Value.agg ⟨c⟩, h4)) fun t61 h5 =>
    k2 (zR 1 (zn (zo [(.int .i64 0), (.int .i64 0)] 1) [(0 * 2, 2, t61)]) h5) fun t62 h6 =>
    k2 (bltV h6 (.append 2 16) [t58, t62]) fun t63 h7 =>
    k2 (some (t63, h7)) fun t5_8 h9 =>
    i_d_6 X z_0 z_3 z_5 t1 t3 t4 t5_8 t6 t18 t19 t22 t23 h9)
      (i_d_6 X z_0 z_3 z_5 t1 t3 t4 t5 t6 t18 t19 t22 t23 h1)
def x_d_7 : Rn → Z → Z → Z → Value → Value → Value → Value → Value → Value → Value → Value → Value → Value → Value → H → Option Out := zez x_d_6
theorem e_d_7 : ((fun X z_0 z_3 z_5 t1 t3 t4 t5 t6 t7 t11 t18 t19 t22 t23 h => sh X c_d_7 (KZ_d_7 X z_0 z_3 z_5) (setL [p1, p3, p4, p5, p6, p7, p11, p18, p19, p22, p23] [t1, t3, t4, t5, t6, t7, t11, t18, t19, t22, t23]) h) : Rn → Z → Z → Z → Value → Value → Value → Value → Value → Value → Value → Value → Value → Value → Value → H → Option Out) = x_d_7 := (show ((fun X z_0 z_3 z_5 t1 t3 t4 t5 t6 t7 t11 t18 t19 t22 t23 h => sh X c_d_7 (KZ_d_7 X z_0 z_3 z_5) (setL [p1, p3, p4, p5, p6, p7, p11, p18, p19, p22, p23] [t1, t3, t4, t5, t6, t7, t11, t18, t19, t22, t23]) h) : Rn → Z → Z → Z → Value → Value → Value → Value → Value → Value → Value → Value → Value → Value → Value → H → Option Out) = zez (fun X z_0 z_3 z_5 t1 t3 t4 t5 t6 t18 t19 t22 t23 h => sh X zib (KZ_d_6 X z_0 z_3 z_5) (setL [p1, p3, p4, p5, p6, p18, p19, p22, p23] [t1, t3, t4, t5, t6, t18, t19, t22, t23]) h) by kernel_rfl).trans (by rw [e_d_6]; rfl)
def zeA (i_d_6 : Rn → Z → Z → Z → Value → Value → Value → Value → Value → Value → Value → Value → Value → H → Option Out) (i_d_7 : Rn → Z → Z → Z → Value → Value → Value → Value → Value → Value → Value → Value → Value → Value → Value → H → Option Out) (i_d_4 : Rn → Z → Z → Value → Value → Value → Value → Value → Value → H → Option Out) (X : Rn) (z_0 z_3 z_5 : Z) (t1 t3 t4 t5 t6 t18 t19 t22 t23 : Value) (h : H) : Option Out :=
    k2 (vBin .lss .other t23 t22 h) fun t24 h1 =>
    br t24
      (k2 (some (t23, h1)) fun t25 h2 =>
    k2 (some (t25, h2)) fun t7 h3 =>
    k2 (some (t3, h3)) fun t27 h4 =>
    k2 (some (t6, h4)) fun t28 h5 =>
    k2 (some (t7, h5)) fun t29 h6 =>
    k2 ((zn [(.int .i64 0), (.int .i64 0)] [(0, 1, t28), (1, 1, t29)]).map fun c => (Value.agg ⟨c⟩, h6)) fun t30 h7 =>
    k2 (zbM (.leaves [0, 1]) (.int .i64 0) true t27 t30 h7) fun t31 h8 =>
    k2 (some (t31, h8)) fun t26 h9 =>
    k2 (zm 0 t26 h9) fun t32 h10 =>
    k2 (zm 1 t26 h10) fun t33 h11 =>
    k2 (some (t32, h11)) fun t8 h12 =>
    k2 (some (t33, h12)) fun t9 h13 =>
    k2 (some (t9, h13)) fun t34 h14 =>
    br t34
      (i_d_6 X z_0 z_3 z_5 t1 t3 t4 t5 t6 t18 t19 t22 t23 h14)
      (k2 (some (t3, h14)) fun t36 h15 =>
    k2 (zj 3 t1 h15) fun t37 h16 =>
    k2 (some (t6, h16)) fun t38 h17 =>
    k2 (some (t7, h17)) fun t39 h18 =>
    k2 (some (t4, h18)) fun t40 h19 =>
    k2 (vBin .sub .other t40 (.int .i64 1) h19) fun t41 h20 =>
    k2 (X.call (.func (.func n_f) #[] #[]) [t36, t37, t38, t39, t41] h20) fun t42 h21 =>
    k2 (some (t42, h21)) fun t35 h22 =>
    k2 (zm 0 t35 h22) fun t43 h23 =>
    k2 (zm 1 t35 h23) fun t44 h24 =>
    k2 (some (zh h24 [(.int .i64 0), (.int .i64 0), (.int .i64 0)])) fun t10 h25 =>
    k2 (zq 3 t10 t43 h25) fun _ h26 =>
    k2 (some (t44, h26)) fun t11 h27 =>
    k2 (some (t11, h27)) fun t45 h28 =>
    k2 (vUn .not t45 h28) fun t46 h29 =>
    br t46
      (k2 (some (t3, h29)) fun t48 h30 =>
    k2 (zj 3 t1 h30) fun t49 h31 =>
    k2 (some (t7, h31)) fun t50 h32 =>
    k2 (some (t6, h32)) fun t51 h33 =>
    k2 (some (t4, h33)) fun t52 h34 =>
    k2 (vBin .sub .other t52 (.int .i64 1) h34) fun t53 h35 =>
    k2 (X.call (.func (.func n_f) #[] #[]) [t48, t49, t50, t51, t53] h35) fun t54 h36 =>
    k2 (some (t54, h36)) fun t47 h37 =>
    k2 (zm 0 t47 h37) fun t55 h38 =>
    k2 (zm 1 t47 h38) fun t56 h39 =>
    k2 (some (t56, h39)) fun t11_40 h41 =>
    i_d_7 X z_0 z_3 z_5 t1 t3 t4 t5 t6 t7 t11_40 t18 t19 t22 t23 h41)
      (i_d_7 X z_0 z_3 z_5 t1 t3 t4 t5 t6 t7 t11 t18 t19 t22 t23 h29)))
      (i_d_4 X z_0 z_3 t1 t3 t4 t5 t18 t19 h1)
def x_d_5 : Rn → Z → Z → Z → Value → Value → Value → Value → Value → Value → Value → Value → Value → H → Option Out := zeA x_d_6 x_d_7 x_d_4
theorem e_d_5 : ((fun X z_0 z_3 z_5 t1 t3 t4 t5 t6 t18 t19 t22 t23 h => sh X zg2 (KZ_d_5 X z_0 z_3 z_5) (setL [p1, p3, p4, p5, p6, p18, p19, p22, p23] [t1, t3, t4, t5, t6, t18, t19, t22, t23]) h) : Rn → Z → Z → Z → Value → Value → Value → Value → Value → Value → Value → Value → Value → H → Option Out) = x_d_5 := (show ((fun X z_0 z_3 z_5 t1 t3 t4 t5 t6 t18 t19 t22 t23 h => sh X zg2 (KZ_d_5 X z_0 z_3 z_5) (setL [p1, p3, p4, p5, p6, p18, p19, p22, p23] [t1, t3, t4, t5, t6, t18, t19, t22, t23]) h) : Rn → Z → Z → Z → Value → Value → Value → Value → Value → Value → Value → Value → Value → H → Option Out) = zeA (fun X z_0 z_3 z_5 t1 t3 t4 t5 t6 t18 t19 t22 t23 h => sh X zib (KZ_d_6 X z_0 z_3 z_5) (setL [p1, p3, p4, p5, p6, p18, p19, p22, p23] [t1, t3, t4, t5, t6, t18, t19, t22, t23]) h) (fun X z_0 z_3 z_5 t1 t3 t4 t5 t6 t7 t11 t18 t19 t22 t23 h => sh X c_d_7 (KZ_d_7 X z_0 z_3 z_5) (setL [p1, p3, p4, p5, p6, p7, p11, p18, p19, p22, p23] [t1, t3, t4, t5, t6, t7, t11, t18, t19, t22, t23]) h) (fun X z_0 z_3 t1 t3 t4 t5 t18 t19 h => sh X zg3 (KZ_d_4 X z_0 z_3) (setL [p1, p3, p4, p5, p18, p19] [t1, t3, t4, t5, t18, t19]) h) by kernel_rfl).trans (by rw [e_d_6, e_d_7, e_d_4]; rfl)
def zeB (i_d_5 : Rn → Z → Z → Z → Value → Value → Value → Value → Value → Value → Value → Value → Value → H → Option Out) (i_d_2 : Rn → Z → Value → Value → Value → Value → H → Option Out) (X : Rn) (z_0 z_3 : Z) (t1 t3 t4 t5 t18 t19 : Value) (h : H) : Option Out :=
    k2 (vBin .lss .other t19 t18 h) fun t20 h1 =>
    br t20
      (k2 (some (t19, h1)) fun t21 h2 =>
    k2 (some (t21, h2)) fun t6 h3 =>
    k2 (some (t6, h3)) fun t22 h4 =>
    k2 (some ((.int .i64 0), h4)) fun t23 h5 =>
    X.loop [p1, p3, p4, p5, p6, p18, p19, p22, p23] zg2 (kBlk 4 (kBlk 3 (kSeq X zg3 [p1, p3, p4, p5, p18, p19] (KZ_d_4 X z_0 z_3)))) (fun z_5 vs h => uc vs fun t1 vs => uc vs fun t3 vs => uc vs fun t4 vs => uc vs fun t5 vs => uc vs fun t6 vs => uc vs fun t18 vs => uc vs fun t19 vs => uc vs fun t22 vs => uc vs fun t23 vs => un vs (i_d_5 X z_0 z_3 z_5 t1 t3 t4 t5 t6 t18 t19 t22 t23 h)) [t1, t3, t4, t5, t6, t18, t19, t22, t23] h5)
      (i_d_2 X z_0 t1 t3 t4 t5 h1)
def x_d_3 : Rn → Z → Z → Value → Value → Value → Value → Value → Value → H → Option Out := zeB x_d_5 x_d_2
theorem e_d_3 : ((fun X z_0 z_3 t1 t3 t4 t5 t18 t19 h => sh X zg4 (KZ_d_3 X z_0 z_3) (setL [p1, p3, p4, p5, p18, p19] [t1, t3, t4, t5, t18, t19]) h) : Rn → Z → Z → Value → Value → Value → Value → Value → Value → H → Option Out) = x_d_3 := (show ((fun X z_0 z_3 t1 t3 t4 t5 t18 t19 h => sh X zg4 (KZ_d_3 X z_0 z_3) (setL [p1, p3, p4, p5, p18, p19] [t1, t3, t4, t5, t18, t19]) h) : Rn → Z → Z → Value → Value → Value → Value → Value → Value → H → Option Out) = zeB (fun X z_0 z_3 z_5 t1 t3 t4 t5 t6 t18 t19 t22 t23 h => sh X zg2 (KZ_d_5 X z_0 z_3 z_5) (setL [p1, p3, p4, p5, p6, p18, p19, p22, p23] [t1, t3, t4, t5, t6, t18, t19, t22, t23]) h) (fun X z_0 t1 t3 t4 t5 h => sh X zgo (ziG X z_0) (setL [p1, p3, p4, p5] [t1, t3, t4, t5]) h) by kernel_rfl).trans (by rw [e_d_5, e_d_2]; rfl)
def zeD (i_d_3 : Rn → Z → Z → Value → Value → Value → Value → Value → Value → H → Option Out) (X : Rn) (z_0 : Z) (t1 t3 t4 : Value) (h : H) : Option Out :=
    k2 (some ((.slice none 0 0), h)) fun t5 h1 =>
    k2 (zd 0 t1 h1) fun t17 h2 =>
    k2 (zc t17 h2) fun t18 h3 =>
    k2 (some ((.int .i64 0), h3)) fun t19 h4 =>
    X.loop [p1, p3, p4, p5, p18, p19] zg4 (kBlk 2 (kSeq X zgo [p1, p3, p4, p5] (ziG X z_0))) (fun z_3 vs h => uc vs fun t1 vs => uc vs fun t3 vs => uc vs fun t4 vs => uc vs fun t5 vs => uc vs fun t18 vs => uc vs fun t19 vs => un vs (i_d_3 X z_0 z_3 t1 t3 t4 t5 t18 t19 h)) [t1, t3, t4, t5, t18, t19] h4
def x_d_0 : Rn → Z → Value → Value → Value → H → Option Out := zeD x_d_3
theorem e_d_0 : ((fun X z_0 t1 t3 t4 h => sh X zg5 (KZ_d_0 X z_0) (setL [p1, p3, p4] [t1, t3, t4]) h) : Rn → Z → Value → Value → Value → H → Option Out) = x_d_0 := (show ((fun X z_0 t1 t3 t4 h => sh X zg5 (KZ_d_0 X z_0) (setL [p1, p3, p4] [t1, t3, t4]) h) : Rn → Z → Value → Value → Value → H → Option Out) = zeD (fun X z_0 z_3 t1 t3 t4 t5 t18 t19 h => sh X zg4 (KZ_d_3 X z_0 z_3) (setL [p1, p3, p4, p5, p18, p19] [t1, t3, t4, t5, t18, t19]) h) by kernel_rfl).trans (by rw [e_d_3]; rfl)
def zfW (i_d_0 : Rn → Z → Value → Value → Value → H → Option Out) (X : Rn) (args : List Value) (h : H) : Option Out :=
    uc args fun t0 args => un args (k2 (some (zh h (zi t0))) fun t1 h1 =>
    k2 (some ((.map none), h1)) fun t2 h2 =>
    k2 (some (.map (some h2.next), h2.new (.map [] 0))) fun t14 h3 =>
    k2 (some (t14, h3)) fun t3 h4 =>
    k2 (some ((.int .i64 1), h4)) fun t4 h5 =>
    X.loop [p1, p3, p4] zg5 (kBlk 0 (fnK [.tmp p2])) (fun z_0 vs h => uc vs fun t1 vs => uc vs fun t3 vs => uc vs fun t4 vs => un vs (i_d_0 X z_0 t1 t3 t4 h)) [t1, t3, t4] h5)
def x_d : Rn → List Value → H → Option Out := zfW x_d_0
theorem e_d : ((fun X args h => zl X 1 f_d args h) : Rn → List Value → H → Option Out) = x_d := (show ((fun X args h => zl X 1 f_d args h) : Rn → List Value → H → Option Out) = zfW (fun X z_0 t1 t3 t4 h => sh X zg5 (KZ_d_0 X z_0) (setL [p1, p3, p4] [t1, t3, t4]) h) by kernel_rfl).trans (by rw [e_d_0]; rfl)
def zet (X : Rn) (t3 t7 t10 : Value) (h : H) : Option Out :=
    k2 (zd 4 t3 h) fun t63 h1 =>
    k2 (zc t63 h1) fun t64 h2 =>
    k2 (zj 2 t7 h2) fun t65 h3 =>
    k2 (zc t10 h3) fun t66 h4 =>
    k2 (zdN (.leaves [0, 1]) h4 t65 t66 t64) fun _ h5 =>
    k2 (zc t10 h5) fun t67 h6 =>
    k2 (some (t67, h6)) fun t6 h7 =>
    some (.val (zg [t6]) h7)
def x_u_0 : Rn → Value → Value → Value → H → Option Out := zet
theorem e_u_0 : ((fun X t3 t7 t10 h => sh X c_u_0 (KZ_u_0 X) (setL [p3, p7, p10] [t3, t7, t10]) h) : Rn → Value → Value → Value → H → Option Out) = x_u_0 := by kernel_rfl
def zes (X : Rn) (l : Nat) (t3 t10 t11 t13 t48 : Value) (h : H) : Option Out :=
    k2 (rdF (fun b => zj 5 t3 b) 0 h [(0, h)]) fun t50 h1 =>
    k2 (zd 1 t11 h1) fun t51 h2 =>
    k2 (rdF (fun b => zc t51 b) 0 h2 [(0, h)]) fun t52 h3 =>
    k2 (some (t13, h3)) fun t53 h4 =>
    k2 (X.call (.func (.func n_u) #[] #[]) [t50, t52, t53] h4) fun t54 h5 =>
    k2 (rdF (fun b => zc t10 b) 0 h5 [(1, h5), (0, h)]) fun t49 h6 =>
    k2 (vBin .add .other t49 t54 h6) fun t55 h7 =>
    k2 (bltV h7 .min [t55, (.int .i64 3001)]) fun t56 h8 =>
    k2 (zq 1 t10 t56 h8) fun _ h9 =>
    fin l none h9
def x_u_2 : Rn → Nat → Value → Value → Value → Value → Value → H → Option Out := zes
theorem e_u_2 : ((fun X l t3 t10 t11 t13 t48 h => sh X c_u_2 (KZ_u_2 X l) (setL [p3, p10, p11, p13, p48] [t3, t10, t11, t13, t48]) h) : Rn → Nat → Value → Value → Value → Value → Value → H → Option Out) = x_u_2 := by kernel_rfl
def zcp (i_u_2 : Rn → Nat → Value → Value → Value → Value → Value → H → Option Out) (X : Rn) (l : Nat) (args : List Value) (sl : zf) (h : H) : Option Out :=
    (sl.get p3).bind fun t3 => (sl.get p10).bind fun t10 => (sl.get p11).bind fun t11 => uc args fun t48 args => un args (k2 (some (t48, h)) fun t13 h1 =>
    zfk l h1 fun h => i_u_2 X l t3 t10 t11 t13 t48 h)
def x_u_1 : Rn → Nat → List Value → zf → H → Option Out := zcp x_u_2
theorem e_u_1 : ((fun X l args sl h => z0 X r_u_1 l args sl h) : Rn → Nat → List Value → zf → H → Option Out) = x_u_1 := (show ((fun X l args sl h => z0 X r_u_1 l args sl h) : Rn → Nat → List Value → zf → H → Option Out) = zcp (fun X l t3 t10 t11 t13 t48 h => sh X c_u_2 (KZ_u_2 X l) (setL [p3, p10, p11, p13, p48] [t3, t10, t11, t13, t48]) h) by kernel_rfl).trans (by rw [e_u_2]; rfl)
def zcS (i_u_0 : Rn → Value → Value → Value → H → Option Out) (X : Rn) (args : List Value) (h : H) : Option Out :=
    uc args fun t0 args => uc args fun t1 args => uc args fun t2 args => un args (k2 (some (zh h (zi t0))) fun t3 h1 =>
    k2 (some ((.int .i64 0), h1)) fun t6 h2 =>
    k2 (some (t1, h2)) fun t14 h3 =>
    k2 (some (t2, h3)) fun t15 h4 =>
    k2 ((zn [(.int .i64 0), (.int .i64 0)] [(0, 1, t14), (1, 1, t15)]).map fun c => (Value.agg ⟨c⟩, h4)) fun t16 h5 =>
    k2 (some (zh h5 [(.int .i64 0), (.int .i64 0)])) fun t7 h6 =>
    k2 (zq 2 t7 t16 h6) fun _ h7 =>
    k2 (zd 4 t3 h7) fun t18 h8 =>
    k2 (zc t18 h8) fun t19 h9 =>
    k2 (zj 2 t7 h9) fun t20 h10 =>
    k2 (zbM (.leaves [0, 1]) (.int .i64 0) true t19 t20 h10) fun t21 h11 =>
    k2 (some (t21, h11)) fun t17 h12 =>
    k2 (zm 0 t17 h12) fun t22 h13 =>
    k2 (zm 1 t17 h13) fun t23 h14 =>
    k2 (some (t22, h14)) fun t8 h15 =>
    k2 (some (t23, h15)) fun t9 h16 =>
    k2 (some (t9, h16)) fun t24 h17 =>
    br t24
      (k2 (some (t8, h17)) fun t25 h18 =>
    k2 (some (t25, h18)) fun t6_19 h20 =>
    some (.val (zg [t6_19]) h20))
      (k2 (some (zh h17 [(.int .i64 0)])) fun t10 h21 =>
    k2 (zq 1 t10 (.int .i64 1) h21) fun _ h22 =>
    k2 (zd 0 t3 h22) fun t27 h23 =>
    k2 (rdF (fun b => zc t27 b) 0 h23 [(0, h22)]) fun t28 h24 =>
    k2 (zd 1 t3 h24) fun t29 h25 =>
    k2 (rdF (fun b => zj 3 t29 b) 0 h25 [(0, h22)]) fun t30 h26 =>
    k2 (some (t1, h26)) fun t31 h27 =>
    k2 (some (t2, h27)) fun t32 h28 =>
    k2 (zd 0 t3 h28) fun t33 h29 =>
    k2 (rdF (fun b => zc t33 b) 0 h29 [(0, h22)]) fun t34 h30 =>
    k2 (rdF (fun b => zj 2 t7 b) 0 h30 [(0, h22)]) fun t35 h31 =>
    k2 (rdF (fun b => zbM (.leaves [0, 1]) (.int .i64 0) false t34 t35 b) 0 h31 [(0, h22)]) fun t36 h32 =>
    k2 (vBin .sub .other t36 (.int .i64 1) h32) fun t37 h33 =>
    k2 (X.call (.func (.func n_f) #[] #[]) [t28, t30, t31, t32, t37] h33) fun t38 h34 =>
    k2 (some (t38, h34)) fun t26 h35 =>
    k2 (zm 0 t26 h35) fun t39 h36 =>
    k2 (some (zh h36 [(.int .i64 0), (.int .i64 0), (.int .i64 0)])) fun t11 h37 =>
    k2 (zq 3 t11 t39 h37) fun _ h38 =>
    k2 (zm 1 t26 h38) fun t40 h39 =>
    k2 (some (t40, h39)) fun t12 h40 =>
    k2 (some (t12, h40)) fun t41 h41 =>
    br t41
      (k2 (zq 1 t10 (.int .i64 2) h41) fun _ h42 =>
    k2 (zd 1 t3 h42) fun t42 h43 =>
    k2 (zj 3 t42 h43) fun t43 h44 =>
    k2 (some (t2, h44)) fun t44 h45 =>
    k2 (zd 2 t11 h45) fun t45 h46 =>
    k2 (zc t45 h46) fun t46 h47 =>
    k2 (X.call (.func (.func n_B) #[] #[]) [t43, t44, t46] h47) fun t47 h48 =>
    (isFn t47).bind fun fv => k2 (X.call fv [.func (.yield h48.next) #[] #[]] (h48.new (.loop .ready none (setL [p3, p10, p11] [t3, t10, t11]) r_u_1))) fun _ h49 =>
    rgP h48.next h49 (fun h50 => i_u_0 X t3 t7 t10 h50) (fun i h50 => bx i 0 (i_u_0 X t3 t7 t10 h50) (none)) (fun h50 => some (.val (zg [t6]) h50)))
      (k2 (zj 5 t3 h41) fun t57 h51 =>
    k2 (some (t2, h51)) fun t58 h52 =>
    k2 (some (t1, h52)) fun t59 h53 =>
    k2 (X.call (.func (.func n_u) #[] #[]) [t57, t58, t59] h53) fun t60 h54 =>
    k2 (vBin .add .other (.int .i64 1) t60 h54) fun t61 h55 =>
    k2 (bltV h55 .min [t61, (.int .i64 3001)]) fun t62 h56 =>
    k2 (zq 1 t10 t62 h56) fun _ h57 =>
    i_u_0 X t3 t7 t10 h57)))
def x_u : Rn → List Value → H → Option Out := zcS x_u_0
theorem e_u : ((fun X args h => zl X 3 f_u args h) : Rn → List Value → H → Option Out) = x_u := (show ((fun X args h => zl X 3 f_u args h) : Rn → List Value → H → Option Out) = zcS (fun X t3 t7 t10 h => sh X c_u_0 (KZ_u_0 X) (setL [p3, p7, p10] [t3, t7, t10]) h) by kernel_rfl).trans (by rw [e_u_0]; rfl)
def zdn (X : Rn) (t6 t7 t9 : Value) (h : H) : Option Out :=
    k2 (zd 2 t7 h) fun t56 h1 =>
    k2 (zc t56 h1) fun t57 h2 =>
    k2 (zj 3 t9 h2) fun t58 h3 =>
    k2 (zR 1 (zn (zo [(.int .i64 0), (.int .i64 0), (.slice none 0 0)] 1) [(0 * 3, 3, t58)]) h3) fun t59 h4 =>
    k2 ((zn [(.int .i64 0), (.int .i64 0), (.slice none 0 0)] [(0, 1, (.int .i64 4)), (1, 1, t57), (2, 1, t59)]).map fun c => (Value.agg ⟨c⟩, h4)) fun t60 h5 =>
    k2 (zq 3 t6 t60 h5) fun _ h6 =>
    (vRes (some 3) t6 h6).bind fun r0 => some (.val (zg [r0]) h6)
def x_p_0 : Rn → Value → Value → Value → H → Option Out := zdn
theorem e_p_0 : ((fun X t6 t7 t9 h => sh X c_p_0 (KZ_p_0 X) (setL [p6, p7, p9] [t6, t7, t9]) h) : Rn → Value → Value → Value → H → Option Out) = x_p_0 := by kernel_rfl
def zdm (X : Rn) (l : Nat) (t3 t7 t9 t10 t43 : Value) (h : H) : Option Out :=
    k2 (rdF (fun b => zj 5 t3 b) 0 h [(0, h)]) fun t46 h1 =>
    k2 (zd 1 t7 h1) fun t47 h2 =>
    k2 (rdF (fun b => zc t47 b) 0 h2 [(0, h)]) fun t48 h3 =>
    k2 (some (t10, h3)) fun t49 h4 =>
    k2 (X.call (.func (.func n_p) #[] #[]) [t46, t48, t49] h4) fun t50 h5 =>
    k2 (zd 2 t9 h5) fun t44 h6 =>
    k2 (rdF (fun b => zc t44 b) 0 h6 [(1, h5), (0, h)]) fun t45 h7 =>
    k2 (bltV h7 .len [t45]) fun t51 h8 =>
    k2 (zR 1 (zn (zo [(.int .i64 0), (.int .i64 0), (.slice none 0 0)] 1) [(0 * 3, 3, (.agg ⟨[(.int .i64 0), (.int .i64 0), (.slice none 0 0)]⟩))]) h8) fun t52 h9 =>
    k2 (bltV h9 (.append 3 40) [t45, t52]) fun t53 h10 =>
    k2 (zr 3 t53 t51 h10) fun t54 h11 =>
    k2 (zd 2 t9 h11) fun t55 h12 =>
    st2 (store2 3 t54 t50 1 t55 t53 h12) fun h13 =>
    fin l none h13
def x_p_2 : Rn → Nat → Value → Value → Value → Value → Value → H → Option Out := zdm
theorem e_p_2 : ((fun X l t3 t7 t9 t10 t43 h => sh X c_p_2 (KZ_p_2 X l) (setL [p3, p7, p9, p10, p43] [t3, t7, t9, t10, t43]) h) : Rn → Nat → Value → Value → Value → Value → Value → H → Option Out) = x_p_2 := by kernel_rfl
def zbS (i_p_2 : Rn → Nat → Value → Value → Value → Value → Value → H → Option Out) (X : Rn) (l : Nat) (args : List Value) (sl : zf) (h : H) : Option Out :=
    (sl.get p3).bind fun t3 => (sl.get p7).bind fun t7 => (sl.get p9).bind fun t9 => uc args fun t43 args => un args (k2 (some (t43, h)) fun t10 h1 =>
    zfk l h1 fun h => i_p_2 X l t3 t7 t9 t10 t43 h)
def x_p_1 : Rn → Nat → List Value → zf → H → Option Out := zbS x_p_2
theorem e_p_1 : ((fun X l args sl h => z0 X r_p_1 l args sl h) : Rn → Nat → List Value → zf → H → Option Out) = x_p_1 := (show ((fun X l args sl h => z0 X r_p_1 l args sl h) : Rn → Nat → List Value → zf → H → Option Out) = zbS (fun X l t3 t7 t9 t10 t43 h => sh X c_p_2 (KZ_p_2 X l) (setL [p3, p7, p9, p10, p43] [t3, t7, t9, t10, t43]) h) by kernel_rfl).trans (by rw [e_p_2]; rfl)
def zb6 (i_p_0 : Rn → Value → Value → Value → H → Option Out) (X : Rn) (args : List Value) (h : H) : Option Out :=
    uc args fun t0 args => uc args fun t1 args => uc args fun t2 args => un args (k2 (some (zh h (zi t0))) fun t3 h1 =>
    k2 (some (zh h1 [(.int .i64 0), (.int .i64 0), (.slice none 0 0)])) fun t6 h2 =>
    k2 (zd 0 t3 h2) fun t12 h3 =>
    k2 (rdF (fun b => zc t12 b) 0 h3 [(0, h2)]) fun t13 h4 =>
    k2 (zd 1 t3 h4) fun t14 h5 =>
    k2 (rdF (fun b => zj 3 t14 b) 0 h5 [(0, h2)]) fun t15 h6 =>
    k2 (some (t1, h6)) fun t16 h7 =>
    k2 (some (t2, h7)) fun t17 h8 =>
    k2 (zd 0 t3 h8) fun t18 h9 =>
    k2 (rdF (fun b => zc t18 b) 0 h9 [(0, h2)]) fun t19 h10 =>
    k2 (some (t1, h10)) fun t20 h11 =>
    k2 (some (t2, h11)) fun t21 h12 =>
    k2 ((zn [(.int .i64 0), (.int .i64 0)] [(0, 1, t20), (1, 1, t21)]).map fun c => (Value.agg ⟨c⟩, h12)) fun t22 h13 =>
    k2 (rdF (fun b => zbM (.leaves [0, 1]) (.int .i64 0) false t19 t22 b) 0 h13 [(0, h2)]) fun t23 h14 =>
    k2 (vBin .sub .other t23 (.int .i64 1) h14) fun t24 h15 =>
    k2 (X.call (.func (.func n_f) #[] #[]) [t13, t15, t16, t17, t24] h15) fun t25 h16 =>
    k2 (some (t25, h16)) fun t11 h17 =>
    k2 (zm 0 t11 h17) fun t26 h18 =>
    k2 (some (zh h18 [(.int .i64 0), (.int .i64 0), (.int .i64 0)])) fun t7 h19 =>
    k2 (zq 3 t7 t26 h19) fun _ h20 =>
    k2 (zm 1 t11 h20) fun t27 h21 =>
    k2 (some (t27, h21)) fun t8 h22 =>
    k2 (some (t8, h22)) fun t28 h23 =>
    k2 (vUn .not t28 h23) fun t29 h24 =>
    br t29
      (k2 (zj 5 t3 h24) fun t30 h25 =>
    k2 (some (t2, h25)) fun t31 h26 =>
    k2 (some (t1, h26)) fun t32 h27 =>
    k2 (X.call (.func (.func n_p) #[] #[]) [t30, t31, t32] h27) fun t33 h28 =>
    k2 (zR 1 (zn (zo [(.int .i64 0), (.int .i64 0), (.slice none 0 0)] 1) [(0 * 3, 3, t33)]) h28) fun t34 h29 =>
    k2 ((zn [(.int .i64 0), (.int .i64 0), (.slice none 0 0)] [(0, 1, (.int .i64 2)), (2, 1, t34)]).map fun c => (Value.agg ⟨c⟩, h29)) fun t35 h30 =>
    k2 (zq 3 t6 t35 h30) fun _ h31 =>
    (vRes (some 3) t6 h31).bind fun r0 => some (.val (zg [r0]) h31))
      (k2 ((zn [(.int .i64 0), (.int .i64 0), (.slice none 0 0)] [(0, 1, (.int .i64 3))]).map fun c => (Value.agg ⟨c⟩, h24)) fun t36 h32 =>
    k2 (some (zh h32 [(.int .i64 0), (.int .i64 0), (.slice none 0 0)])) fun t9 h33 =>
    k2 (zq 3 t9 t36 h33) fun _ h34 =>
    k2 (zd 1 t3 h34) fun t37 h35 =>
    k2 (zj 3 t37 h35) fun t38 h36 =>
    k2 (some (t2, h36)) fun t39 h37 =>
    k2 (zd 2 t7 h37) fun t40 h38 =>
    k2 (zc t40 h38) fun t41 h39 =>
    k2 (X.call (.func (.func n_B) #[] #[]) [t38, t39, t41] h39) fun t42 h40 =>
    (isFn t42).bind fun fv => k2 (X.call fv [.func (.yield h40.next) #[] #[]] (h40.new (.loop .ready none (setL [p3, p7, p9] [t3, t7, t9]) r_p_1))) fun _ h41 =>
    rgP h40.next h41 (fun h42 => i_p_0 X t6 t7 t9 h42) (fun i h42 => bx i 0 (i_p_0 X t6 t7 t9 h42) (none)) (fun h42 => (vRes (some 3) t6 h42).bind fun r0 => some (.val (zg [r0]) h42))))
def x_p : Rn → List Value → H → Option Out := zb6 x_p_0
theorem e_p : ((fun X args h => zl X 3 f_p args h) : Rn → List Value → H → Option Out) = x_p := (show ((fun X args h => zl X 3 f_p args h) : Rn → List Value → H → Option Out) = zb6 (fun X t6 t7 t9 h => sh X c_p_0 (KZ_p_0 X) (setL [p6, p7, p9] [t6, t7, t9]) h) by kernel_rfl).trans (by rw [e_p_0]; rfl)
def T_judge_both (X : Rn) (args : List Value) (h : H) : Option Out :=
    uc args fun t0 args => uc args fun t1 args => un args (k2 (some (zh h (zi t0))) fun t2 h1 =>
    k2 (some (zh h1 (zi t1))) fun t3 h2 =>
    k2 (some ((.bool false), h2)) fun t4 h3 =>
    k2 (zj 3 t2 h3) fun t5 h4 =>
    k2 (X.call (.func (.func n_o) #[] #[]) [t5] h4) fun t6 h5 =>
    k2 (vBin .eql .other t6 (.int .i64 0) h5) fun t7 h6 =>
    k2 (some (t7, h6)) fun t8 h7 =>
    k2 (gd t8 true h7 (zj 3 t3 h7)) fun t9 h8 =>
    k2 (gd t8 true h8 (X.call (.func (.func n_o) #[] #[]) [t9] h8)) fun t10 h9 =>
    k2 (gd t8 true h9 (vBin .eql .other t10 (.int .i64 0) h9)) fun t11 h10 =>
    k2 (zD t8 t11 (.bool false) h10) fun t12 h11 =>
    k2 (some (t12, h11)) fun t13 h12 =>
    k2 (gd t13 true h12 (zd 1 t2 h12)) fun t14 h13 =>
    k2 (gd t13 true h13 (zc t14 h13)) fun t15 h14 =>
    k2 (gd t13 true h14 (zd 1 t3 h14)) fun t16 h15 =>
    k2 (gd t13 true h15 (zc t16 h15)) fun t17 h16 =>
    k2 (gd t13 true h16 (vBin .eql .other t15 t17 h16)) fun t18 h17 =>
    k2 (zD t13 t18 (.bool false) h17) fun t19 h18 =>
    k2 (some (t19, h18)) fun t4 h19 =>
    some (.val (zg [t4]) h19))
def x_N : Rn → List Value → H → Option Out := T_judge_both
theorem e_N : ((fun X args h => zl X 2 f_N args h) : Rn → List Value → H → Option Out) = x_N := by kernel_rfl
def ziw (X : Rn) (t2 t5 : Value) (h : H) : Option Out :=
    k2 (rdF (fun b => zj 3 t5 b) 0 h [(0, h)]) fun t48 h1 =>
    k2 (X.call (.func (.func n_d) #[] #[]) [t48] h1) fun t49 h2 =>
    k2 (zd 0 t2 h2) fun t50 h3 =>
    k2 (rdF (fun b => zc t50 b) 0 h3 [(1, h2), (0, h)]) fun t51 h4 =>
    k2 ((zn [(.int .i64 0), (.int .i64 0)] [(0, 1, (.int .i64 0)), (1, 1, t51)]).map fun c => (Value.agg ⟨c⟩, h4)) fun t52 h5 =>
    k2 (rdF (fun b => zbM (.leaves [0, 1]) (.int .i64 0) true t49 t52 b) 1 h5 [(1, h2), (0, h)]) fun t53 h6 =>
    k2 (some (t53, h6)) fun t47 h7 =>
    k2 (zm 0 t47 h7) fun t54 h8 =>
    k2 (zm 1 t47 h8) fun t55 h9 =>
    k2 (some (t54, h9)) fun t8 h10 =>
    k2 (some (t55, h10)) fun t9 h11 =>
    k2 (some (t9, h11)) fun t56 h12 =>
    k2 (vUn .not t56 h12) fun t57 h13 =>
    k2 (some (t57, h13)) fun t4 h14 =>
    some (.val (zg [t4]) h14)
def x_y_0 : Rn → Value → Value → H → Option Out := ziw
theorem e_y_0 : ((fun X t2 t5 h => sh X zgY (KZ_y_0 X) (setL [p2, p5] [t2, t5]) h) : Rn → Value → Value → H → Option Out) = x_y_0 := by kernel_rfl
def zeE (i_y_0 : Rn → Value → Value → H → Option Out) (X : Rn) (z_1 : Z) (t2 t5 t22 t23 t24 : Value) (h : H) : Option Out :=
    k2 (vBin .lss .other t24 t23 h) fun t25 h1 =>
    br t25
      (k2 (zr 3 t22 t24 h1) fun t26 h2 =>
    k2 (zj 3 t26 h2) fun t27 h3 =>
    k2 (some (zh h3 [(.int .i64 0), (.int .i64 0), (.int .i64 0)])) fun t7 h4 =>
    k2 (zq 3 t7 t27 h4) fun _ h5 =>
    k2 (zd 2 t5 h5) fun t28 h6 =>
    k2 (zc t28 h6) fun t29 h7 =>
    k2 (zd 0 t7 h7) fun t30 h8 =>
    k2 (zc t30 h8) fun t31 h9 =>
    k2 (zd 0 t2 h9) fun t32 h10 =>
    k2 (zc t32 h10) fun t33 h11 =>
    k2 (vBin .add .other t31 t33 h11) fun t34 h12 =>
    k2 (zd 1 t7 h12) fun t35 h13 =>
    k2 (zc t35 h13) fun t36 h14 =>
    k2 (zd 0 t2 h14) fun t37 h15 =>
    k2 (zc t37 h15) fun t38 h16 =>
    k2 (vBin .add .other t36 t38 h16) fun t39 h17 =>
    k2 (zd 2 t7 h17) fun t40 h18 =>
    k2 (zc t40 h18) fun t41 h19 =>
    k2 ((zn [(.int .i64 0), (.int .i64 0), (.int .i64 0)] [(0, 1, t34), (1, 1, t39), (2, 1, t41)]).map fun c => (Value.agg ⟨c⟩, h19)) fun t42 h20 =>
    k2 (zR 1 (zn (zo [(.int .i64 0), (.int .i64 0), (.int .i64 0)] 1) [(0 * 3, 3, t42)]) h20) fun t43 h21 =>
    k2 (bltV h21 (.append 3 24) [t29, t43]) fun t44 h22 =>
    k2 (zd 2 t5 h22) fun t45 h23 =>
    k2 (zq 1 t45 t44 h23) fun _ h24 =>
    k2 (vBin .add .other t24 (.int .i64 1) h24) fun t46 h25 =>
    k2 (some (t46, h25)) fun t24_26 h27 =>
    z_1 [t2, t5, t22, t23, t24_26] h27)
      (i_y_0 X t2 t5 h1)
def x_y_1 : Rn → Z → Value → Value → Value → Value → Value → H → Option Out := zeE x_y_0
theorem e_y_1 : ((fun X z_1 t2 t5 t22 t23 t24 h => sh X zgX (KZ_y_1 X z_1) (setL [p2, p5, p22, p23, p24] [t2, t5, t22, t23, t24]) h) : Rn → Z → Value → Value → Value → Value → Value → H → Option Out) = x_y_1 := (show ((fun X z_1 t2 t5 t22 t23 t24 h => sh X zgX (KZ_y_1 X z_1) (setL [p2, p5, p22, p23, p24] [t2, t5, t22, t23, t24]) h) : Rn → Z → Value → Value → Value → Value → Value → H → Option Out) = zeE (fun X t2 t5 h => sh X zgY (KZ_y_0 X) (setL [p2, p5] [t2, t5]) h) by kernel_rfl).trans (by rw [e_y_0]; rfl)
def zfX (i_y_1 : Rn → Z → Value → Value → Value → Value → Value → H → Option Out) (X : Rn) (args : List Value) (h : H) : Option Out :=
    uc args fun t0 args => uc args fun t1 args => un args (k2 (some (zh h (zi t0))) fun t2 h1 =>
    k2 (some (zh h1 (zi t1))) fun t3 h2 =>
    k2 (some ((.bool false), h2)) fun t4 h3 =>
    k2 (zd 2 t2 h3) fun t17 h4 =>
    k2 (rdF (fun b => zc t17 b) 0 h4 [(0, h3)]) fun t18 h5 =>
    k2 (X.call (.func (.func n_l) #[] #[]) [t18] h5) fun t19 h6 =>
    k2 (zd 0 t2 h6) fun t10 h7 =>
    k2 (rdF (fun b => zc t10 b) 0 h7 [(1, h6), (0, h3)]) fun t11 h8 =>
    k2 (zd 0 t3 h8) fun t12 h9 =>
    k2 (rdF (fun b => zc t12 b) 0 h9 [(1, h6), (0, h3)]) fun t13 h10 =>
    k2 (vBin .add .other t11 t13 h10) fun t14 h11 =>
    k2 (zd 1 t2 h11) fun t15 h12 =>
    k2 (rdF (fun b => zc t15 b) 0 h12 [(1, h6), (0, h3)]) fun t16 h13 =>
    k2 ((zn [(.int .i64 0), (.int .i64 0), (.slice none 0 0)] [(0, 1, t14), (1, 1, t16), (2, 1, t19)]).map fun c => (Value.agg ⟨c⟩, h13)) fun t20 h14 =>
    k2 (some (zh h14 [(.int .i64 0), (.int .i64 0), (.slice none 0 0)])) fun t5 h15 =>
    k2 (zq 3 t5 t20 h15) fun _ h16 =>
    k2 (zd 2 t3 h16) fun t21 h17 =>
    k2 (zc t21 h17) fun t22 h18 =>
    k2 (bltV h18 .len [t22]) fun t23 h19 =>
    k2 (some ((.int .i64 0), h19)) fun t24 h20 =>
    X.loop [p2, p5, p22, p23, p24] zgX (kBlk 0 (kSeq X zgY [p2, p5] (KZ_y_0 X))) (fun z_1 vs h => uc vs fun t2 vs => uc vs fun t5 vs => uc vs fun t22 vs => uc vs fun t23 vs => uc vs fun t24 vs => un vs (i_y_1 X z_1 t2 t5 t22 t23 t24 h)) [t2, t5, t22, t23, t24] h20)
def x_y : Rn → List Value → H → Option Out := zfX x_y_1
theorem e_y : ((fun X args h => zl X 2 f_y args h) : Rn → List Value → H → Option Out) = x_y := (show ((fun X args h => zl X 2 f_y args h) : Rn → List Value → H → Option Out) = zfX (fun X z_1 t2 t5 t22 t23 t24 h => sh X zgX (KZ_y_1 X z_1) (setL [p2, p5, p22, p23, p24] [t2, t5, t22, t23, t24]) h) by kernel_rfl).trans (by rw [e_y_1]; rfl)
def zgw (X : Rn) (t4 : Value) (h : H) : Option Out :=
    k2 (some (t4, h)) fun t50 h1 =>
    k2 (some (t50, h1)) fun t2 h2 =>
    some (.val (zg [t2]) h2)
def x_m_0 : Rn → Value → H → Option Out := zgw
theorem e_m_0 : ((fun X t4 h => sh X c_m_0 (KZ_m_0 X) (setL [p4] [t4]) h) : Rn → Value → H → Option Out) = x_m_0 := by kernel_rfl
def zgv (X : Rn) (z_1 : Z) (t3 t4 t5 t14 t15 : Value) (h : H) : Option Out :=
    k2 (vBin .add .other t15 (.int .i64 1) h) fun t49 h1 =>
    k2 (some (t49, h1)) fun t15_2 h3 =>
    z_1 [t3, t4, t5, t14, t15_2] h3
def x_m_2 : Rn → Z → Value → Value → Value → Value → Value → H → Option Out := zgv
theorem e_m_2 : ((fun X z_1 t3 t4 t5 t14 t15 h => sh X c_m_2 (KZ_m_2 X z_1) (setL [p3, p4, p5, p14, p15] [t3, t4, t5, t14, t15]) h) : Rn → Z → Value → Value → Value → Value → Value → H → Option Out) = x_m_2 := by kernel_rfl
def zdq (i_m_2 : Rn → Z → Value → Value → Value → Value → Value → H → Option Out) (X : Rn) (z_1 : Z) (t3 t4 t5 t6 t14 t15 : Value) (h : H) : Option Out :=
    k2 (some (t4, h)) fun t40 h1 =>
    k2 (some (t5, h1)) fun t41 h2 =>
    k2 (bltV h2 .len [t41]) fun t42 h3 =>
    k2 (zR 1 (zn (zo [(.int .i64 0)] 1) [(0 * 1, 1, t42)]) h3) fun t43 h4 =>
    k2 (bltV h4 (.append 1 8) [t40, t43]) fun t44 h5 =>
    k2 (some (t44, h5)) fun t4_6 h7 =>
    k2 (some (t5, h7)) fun t45 h8 =>
    k2 (some (t6, h8)) fun t46 h9 =>
    k2 (zR 1 (zn (zo [(.int .i64 0)] 1) [(0 * 1, 1, t46)]) h9) fun t47 h10 =>
    k2 (bltV h10 (.append 1 8) [t45, t47]) fun t48 h11 =>
    k2 (some (t48, h11)) fun t5_12 h13 =>
    i_m_2 X z_1 t3 t4_6 t5_12 t14 t15 h13
def x_m_3 : Rn → Z → Value → Value → Value → Value → Value → Value → H → Option Out := zdq x_m_2
theorem e_m_3 : ((fun X z_1 t3 t4 t5 t6 t14 t15 h => sh X c_m_3 (KZ_m_3 X z_1) (setL [p3, p4, p5, p6, p14, p15] [t3, t4, t5, t6, t14, t15]) h) : Rn → Z → Value → Value → Value → Value → Value → Value → H → Option Out) = x_m_3 := (show ((fun X z_1 t3 t4 t5 t6 t14 t15 h => sh X c_m_3 (KZ_m_3 X z_1) (setL [p3, p4, p5, p6, p14, p15] [t3, t4, t5, t6, t14, t15]) h) : Rn → Z → Value → Value → Value → Value → Value → Value → H → Option Out) = zdq (fun X z_1 t3 t4 t5 t14 t15 h => sh X c_m_2 (KZ_m_2 X z_1) (setL [p3, p4, p5, p14, p15] [t3, t4, t5, t14, t15]) h) by kernel_rfl).trans (by rw [e_m_2]; rfl)
def zdp (i_m_2 : Rn → Z → Value → Value → Value → Value → Value → H → Option Out) (i_m_3 : Rn → Z → Value → Value → Value → Value → Value → Value → H → Option Out) (X : Rn) (z_1 z_4 : Z) (t3 t4 t5 t6 t14 t15 t18 t19 t20 : Value) (h : H) : Option Out :=
    k2 (vBin .lss .other t20 t19 h) fun t21 h1 =>
    br t21
      (k2 (some (t20, h1)) fun t22 h2 =>
    k2 (zr 1 t18 t20 h2) fun t23 h3 =>
    k2 (zc t23 h3) fun t24 h4 =>
    k2 (some (t22, h4)) fun t7 h5 =>
    k2 (some (t24, h5)) fun t8 h6 =>
    k2 (some (t3, h6)) fun t26 h7 =>
    k2 (some (t8, h7)) fun t27 h8 =>
    k2 (some (t6, h8)) fun t28 h9 =>
    k2 ((zn [(.int .i64 0), (.int .i64 0)] [(0, 1, t27), (1, 1, t28)]).map fun c => (Value.agg ⟨c⟩, h9)) fun t29 h10 =>
    k2 (zbM (.leaves [0, 1]) (.int .i64 0) true t26 t29 h10) fun t30 h11 =>
    k2 (some (t30, h11)) fun t25 h12 =>
    k2 (zm 0 t25 h12) fun t31 h13 =>
    k2 (zm 1 t25 h13) fun t32 h14 =>
    k2 (some (t31, h14)) fun t9 h15 =>
    k2 (some (t32, h15)) fun t10 h16 =>
    k2 (some (t10, h16)) fun t33 h17 =>
    k2 (vUn .not t33 h17) fun t34 h18 =>
    br t34
      (k2 (some (t4, h18)) fun t35 h19 =>
    k2 (some (t7, h19)) fun t36 h20 =>
    k2 (zR 1 (zn (zo [(.int .i64 0)] 1) [(0 * 1, 1, t36)]) h20) fun t37 h21 =>
    k2 (bltV h21 (.append 1 8) [t35, t37]) fun t38 h22 =>
    k2 (some (t38, h22)) fun t4_23 h24 =>
    i_m_2 X z_1 t3 t4_23 t5 t14 t15 h24)
      (k2 (vBin .add .other t20 (.int .i64 1) h18) fun t39 h25 =>
    k2 (some (t39, h25)) fun t20_26 h27 =>
    z_4 [t3, t4, t5, t6, t14, t15, t18, t19, t20_26] h27))
      (i_m_3 X z_1 t3 t4 t5 t6 t14 t15 h1)
def x_m_4 : Rn → Z → Z → Value → Value → Value → Value → Value → Value → Value → Value → Value → H → Option Out := zdp x_m_2 x_m_3
theorem e_m_4 : ((fun X z_1 z_4 t3 t4 t5 t6 t14 t15 t18 t19 t20 h => sh X c_m_4 (KZ_m_4 X z_1 z_4) (setL [p3, p4, p5, p6, p14, p15, p18, p19, p20] [t3, t4, t5, t6, t14, t15, t18, t19, t20]) h) : Rn → Z → Z → Value → Value → Value → Value → Value → Value → Value → Value → Value → H → Option Out) = x_m_4 := (show ((fun X z_1 z_4 t3 t4 t5 t6 t14 t15 t18 t19 t20 h => sh X c_m_4 (KZ_m_4 X z_1 z_4) (setL [p3, p4, p5, p6, p14, p15, p18, p19, p20] [t3, t4, t5, t6, t14, t15, t18, t19, t20]) h) : Rn → Z → Z → Value → Value → Value → Value → Value → Value → Value → Value → Value → H → Option Out) = zdp (fun X z_1 t3 t4 t5 t14 t15 h => sh X c_m_2 (KZ_m_2 X z_1) (setL [p3, p4, p5, p14, p15] [t3, t4, t5, t14, t15]) h) (fun X z_1 t3 t4 t5 t6 t14 t15 h => sh X c_m_3 (KZ_m_3 X z_1) (setL [p3, p4, p5, p6, p14, p15] [t3, t4, t5, t6, t14, t15]) h) by kernel_rfl).trans (by rw [e_m_2, e_m_3]; rfl)
def zdr (i_m_4 : Rn → Z → Z → Value → Value → Value → Value → Value → Value → Value → Value → Value → H → Option Out) (i_m_0 : Rn → Value → H → Option Out) (X : Rn) (z_1 : Z) (t3 t4 t5 t14 t15 : Value) (h : H) : Option Out :=
    k2 (vBin .lss .other t15 t14 h) fun t16 h1 =>
    br t16
      (k2 (some (t15, h1)) fun t17 h2 =>
    k2 (some (t17, h2)) fun t6 h3 =>
    k2 (some (t5, h3)) fun t18 h4 =>
    k2 (bltV h4 .len [t18]) fun t19 h5 =>
    k2 (some ((.int .i64 0), h5)) fun t20 h6 =>
    X.loop [p3, p4, p5, p6, p14, p15, p18, p19, p20] c_m_4 (kBlk 2 (kSeq X c_m_3 [p3, p4, p5, p6, p14, p15] (KZ_m_3 X z_1))) (fun z_4 vs h => uc vs fun t3 vs => uc vs fun t4 vs => uc vs fun t5 vs => uc vs fun t6 vs => uc vs fun t14 vs => uc vs fun t15 vs => uc vs fun t18 vs => uc vs fun t19 vs => uc vs fun t20 vs => un vs (i_m_4 X z_1 z_4 t3 t4 t5 t6 t14 t15 t18 t19 t20 h)) [t3, t4, t5, t6, t14, t15, t18, t19, t20] h6)
      (i_m_0 X t4 h1)
def x_m_1 : Rn → Z → Value → Value → Value → Value → Value → H → Option Out := zdr x_m_4 x_m_0
theorem e_m_1 : ((fun X z_1 t3 t4 t5 t14 t15 h => sh X c_m_1 (KZ_m_1 X z_1) (setL [p3, p4, p5, p14, p15] [t3, t4, t5, t14, t15]) h) : Rn → Z → Value → Value → Value → Value → Value → H → Option Out) = x_m_1 := (show ((fun X z_1 t3 t4 t5 t14 t15 h => sh X c_m_1 (KZ_m_1 X z_1) (setL [p3, p4, p5, p14, p15] [t3, t4, t5, t14, t15]) h) : Rn → Z → Value → Value → Value → Value → Value → H → Option Out) = zdr (fun X z_1 z_4 t3 t4 t5 t6 t14 t15 t18 t19 t20 h => sh X c_m_4 (KZ_m_4 X z_1 z_4) (setL [p3, p4, p5, p6, p14, p15, p18, p19, p20] [t3, t4, t5, t6, t14, t15, t18, t19, t20]) h) (fun X t4 h => sh X c_m_0 (KZ_m_0 X) (setL [p4] [t4]) h) by kernel_rfl).trans (by rw [e_m_4, e_m_0]; rfl)
def zex (i_m_1 : Rn → Z → Value → Value → Value → Value → Value → H → Option Out) (X : Rn) (args : List Value) (h : H) : Option Out :=
    uc args fun t0 args => un args (k2 (some (zh h (zi t0))) fun t1 h1 =>
    k2 (some ((.slice none 0 0), h1)) fun t2 h2 =>
    k2 (zj 3 t1 h2) fun t11 h3 =>
    k2 (X.call (.func (.func n_d) #[] #[]) [t11] h3) fun t12 h4 =>
    k2 (some (t12, h4)) fun t3 h5 =>
    k2 (some ((.slice none 0 0), h5)) fun t4 h6 =>
    k2 (some ((.slice none 0 0), h6)) fun t5 h7 =>
    k2 (zd 0 t1 h7) fun t13 h8 =>
    k2 (zc t13 h8) fun t14 h9 =>
    k2 (some ((.int .i64 0), h9)) fun t15 h10 =>
    X.loop [p3, p4, p5, p14, p15] c_m_1 (kBlk 0 (kSeq X c_m_0 [p4] (KZ_m_0 X))) (fun z_1 vs h => uc vs fun t3 vs => uc vs fun t4 vs => uc vs fun t5 vs => uc vs fun t14 vs => uc vs fun t15 vs => un vs (i_m_1 X z_1 t3 t4 t5 t14 t15 h)) [t3, t4, t5, t14, t15] h10)
def x_m : Rn → List Value → H → Option Out := zex x_m_1
theorem e_m : ((fun X args h => zl X 1 f_m args h) : Rn → List Value → H → Option Out) = x_m := (show ((fun X args h => zl X 1 f_m args h) : Rn → List Value → H → Option Out) = zex (fun X z_1 t3 t4 t5 t14 t15 h => sh X c_m_1 (KZ_m_1 X z_1) (setL [p3, p4, p5, p14, p15] [t3, t4, t5, t14, t15]) h) by kernel_rfl).trans (by rw [e_m_1]; rfl)
def T_judge_steps (X : Rn) (args : List Value) (h : H) : Option Out :=
    uc args fun t0 args => uc args fun t1 args => un args (k2 (some (zh h (zi t0))) fun t2 h1 =>
    k2 (some (zh h1 (zi t1))) fun t3 h2 =>
    k2 (some (.nilFunc, h2)) fun t4 h3 =>
    k2 (some (.func (.func n_C) ⟨[]⟩ ⟨[t2, t3]⟩, h3)) fun t5 h4 =>
    k2 (some (t5, h4)) fun t4 h5 =>
    some (.val (zg [t4]) h5))
def x_D : Rn → List Value → H → Option Out := T_judge_steps
theorem e_D : ((fun X args h => zl X 2 f_D args h) : Rn → List Value → H → Option Out) = x_D := by kernel_rfl
def zcV (X : Rn) (args : List Value) (h : H) : Option Out :=
    uc args fun t0 args => uc args fun t1 args => un args (k2 (some ((.bool false), h)) fun t4 h1 =>
    k2 (some (t0, h1)) fun t5 h2 =>
    k2 (some (t1, h2)) fun t6 h3 =>
    k2 (X.call (.func (.func n_v) #[] #[]) [t5, t6] h3) fun t7 h4 =>
    k2 (vBin .geq .other t7 (.int .i64 0) h4) fun t8 h5 =>
    k2 (some (t8, h5)) fun t4 h6 =>
    some (.val (zg [t4]) h6))
def x_I : Rn → List Value → H → Option Out := zcV
theorem e_I : ((fun X args h => zl X 2 f_I args h) : Rn → List Value → H → Option Out) = x_I := by kernel_rfl
def zf0 (X : Rn) (args : List Value) (h : H) : Option Out :=
    uc args fun t0 args => uc args fun t1 args => un args (k2 (some ((.int .i64 0), h)) fun t4 h1 =>
    k2 (some (t0, h1)) fun t7 h2 =>
    k2 (X.call (.func (.func n_H) #[] #[]) [t7] h2) fun t8 h3 =>
    k2 (some (t8, h3)) fun t5 h4 =>
    k2 (some (t1, h4)) fun t9 h5 =>
    k2 (X.call (.func (.func n_H) #[] #[]) [t9] h5) fun t10 h6 =>
    k2 (some (t10, h6)) fun t6 h7 =>
    k2 (some (t5, h7)) fun t11 h8 =>
    br t11
      (k2 (some (t6, h8)) fun t12 h9 =>
    br t12
      (k2 (some ((.int .i64 0), h9)) fun t4 h10 =>
    some (.val (zg [t4]) h10))
      (k2 (some ((.int .i64 (-1)), h9)) fun t4 h11 =>
    some (.val (zg [t4]) h11)))
      (k2 (some (t6, h8)) fun t13 h12 =>
    br t13
      (k2 (some ((.int .i64 1), h12)) fun t4 h13 =>
    some (.val (zg [t4]) h13))
      (k2 (some (t0, h12)) fun t14 h14 =>
    k2 (some (t1, h14)) fun t15 h15 =>
    k2 (vBin .lss .other t14 t15 h15) fun t16 h16 =>
    br t16
      (k2 (some ((.int .i64 (-1)), h16)) fun t4 h17 =>
    some (.val (zg [t4]) h17))
      (k2 (some (t0, h16)) fun t17 h18 =>
    k2 (some (t1, h18)) fun t18 h19 =>
    k2 (vBin .gtr .other t17 t18 h19) fun t19 h20 =>
    br t19
      (k2 (some ((.int .i64 1), h20)) fun t4 h21 =>
    some (.val (zg [t4]) h21))
      (k2 (some ((.int .i64 0), h20)) fun t4 h22 =>
    some (.val (zg [t4]) h22))))))
def x_E : Rn → List Value → H → Option Out := zf0
theorem e_E : ((fun X args h => zl X 2 f_E args h) : Rn → List Value → H → Option Out) = x_E := by kernel_rfl
def zg9 (X : Rn) (t5 : Value) (h : H) : Option Out :=
    k2 (zc t5 h) fun t31 h1 =>
    k2 (some (t31, h1)) fun t4 h2 =>
    some (.val (zg [t4]) h2)
def x_t_0 : Rn → Value → H → Option Out := zg9
theorem e_t_0 : ((fun X t5 h => sh X c_t_0 (KZ_t_0 X) (setL [p5] [t5]) h) : Rn → Value → H → Option Out) = x_t_0 := by kernel_rfl
def zg8 (X : Rn) (z_1 : Z) (t2 t4 t5 t6 : Value) (h : H) : Option Out :=
    k2 (some (t6, h)) fun t14 h1 =>
    k2 (vBin .add .other t14 (.int .i64 1) h1) fun t15 h2 =>
    k2 (some (t15, h2)) fun t6_3 h4 =>
    z_1 [t2, t4, t5, t6_3] h4
def x_t_2 : Rn → Z → Value → Value → Value → Value → H → Option Out := zg8
theorem e_t_2 : ((fun X z_1 t2 t4 t5 t6 h => sh X c_t_2 (KZ_t_2 X z_1) (setL [p2, p4, p5, p6] [t2, t4, t5, t6]) h) : Rn → Z → Value → Value → Value → Value → H → Option Out) = x_t_2 := by kernel_rfl
def zg7 (X : Rn) (l : Nat) (t5 t7 t22 : Value) (h : H) : Option Out :=
    k2 (zc t5 h) fun t23 h1 =>
    k2 (some (t7, h1)) fun t24 h2 =>
    k2 (X.call (.func (.func n_I) #[] #[]) [t23, t24] h2) fun t25 h3 =>
    k2 (vUn .not t25 h3) fun t26 h4 =>
    br t26
      (k2 (zc t5 h4) fun t27 h5 =>
    k2 (some (t7, h5)) fun t28 h6 =>
    k2 (zR 1 (zn (zo [(.int .i64 0)] 1) [(0 * 1, 1, t28)]) h6) fun t29 h7 =>
    k2 (bltV h7 (.append 1 8) [t27, t29]) fun t30 h8 =>
    k2 (zq 1 t5 t30 h8) fun _ h9 =>
    fin l none h9)
      (fin l none h4)
def x_t_4 : Rn → Nat → Value → Value → Value → H → Option Out := zg7
theorem e_t_4 : ((fun X l t5 t7 t22 h => sh X c_t_4 (KZ_t_4 X l) (setL [p5, p7, p22] [t5, t7, t22]) h) : Rn → Nat → Value → Value → Value → H → Option Out) = x_t_4 := by kernel_rfl
def zdQ (i_t_4 : Rn → Nat → Value → Value → Value → H → Option Out) (X : Rn) (l : Nat) (args : List Value) (sl : zf) (h : H) : Option Out :=
    (sl.get p5).bind fun t5 => uc args fun t22 args => un args (k2 (some (t22, h)) fun t7 h1 =>
    zfk l h1 fun h => i_t_4 X l t5 t7 t22 h)
def x_t_3 : Rn → Nat → List Value → zf → H → Option Out := zdQ x_t_4
theorem e_t_3 : ((fun X l args sl h => z0 X r_t_3 l args sl h) : Rn → Nat → List Value → zf → H → Option Out) = x_t_3 := (show ((fun X l args sl h => z0 X r_t_3 l args sl h) : Rn → Nat → List Value → zf → H → Option Out) = zdQ (fun X l t5 t7 t22 h => sh X c_t_4 (KZ_t_4 X l) (setL [p5, p7, p22] [t5, t7, t22]) h) by kernel_rfl).trans (by rw [e_t_4]; rfl)
def zdR (i_t_2 : Rn → Z → Value → Value → Value → Value → H → Option Out) (i_t_0 : Rn → Value → H → Option Out) (X : Rn) (z_1 : Z) (t2 t4 t5 t6 : Value) (h : H) : Option Out :=
    k2 (some (t6, h)) fun t10 h1 =>
    k2 (zc t5 h1) fun t11 h2 =>
    k2 (bltV h2 .len [t11]) fun t12 h3 =>
    k2 (vBin .lss .other t10 t12 h3) fun t13 h4 =>
    br t13
      (k2 (rdF (fun b => zj 3 t2 b) 0 h4 [(0, h4)]) fun t16 h5 =>
    k2 (rdF (fun b => zc t5 b) 0 h5 [(0, h4)]) fun t17 h6 =>
    k2 (some (t6, h6)) fun t18 h7 =>
    k2 (zr 1 t17 t18 h7) fun t19 h8 =>
    k2 (rdF (fun b => zc t19 b) 0 h8 [(0, h4)]) fun t20 h9 =>
    k2 (X.call (.func (.func n_B) #[] #[]) [t16, t20, (.int .i64 0)] h9) fun t21 h10 =>
    (isFn t21).bind fun fv => k2 (X.call fv [.func (.yield h10.next) #[] #[]] (h10.new (.loop .ready none (setL [p5] [t5]) r_t_3))) fun _ h11 =>
    rgP h10.next h11 (fun h12 => i_t_2 X z_1 t2 t4 t5 t6 h12) (fun i h12 => bx i 2 (i_t_2 X z_1 t2 t4 t5 t6 h12) (bx i 1 (i_t_2 X z_1 t2 t4 t5 t6 h12) (bx i 0 (i_t_0 X t5 h12) (none)))) (fun h12 => some (.val (zg [t4]) h12)))
      (i_t_0 X t5 h4)
def x_t_1 : Rn → Z → Value → Value → Value → Value → H → Option Out := zdR x_t_2 x_t_0
theorem e_t_1 : ((fun X z_1 t2 t4 t5 t6 h => sh X c_t_1 (KZ_t_1 X z_1) (setL [p2, p4, p5, p6] [t2, t4, t5, t6]) h) : Rn → Z → Value → Value → Value → Value → H → Option Out) = x_t_1 := (show ((fun X z_1 t2 t4 t5 t6 h => sh X c_t_1 (KZ_t_1 X z_1) (setL [p2, p4, p5, p6] [t2, t4, t5, t6]) h) : Rn → Z → Value → Value → Value → Value → H → Option Out) = zdR (fun X z_1 t2 t4 t5 t6 h => sh X c_t_2 (KZ_t_2 X z_1) (setL [p2, p4, p5, p6] [t2, t4, t5, t6]) h) (fun X t5 h => sh X c_t_0 (KZ_t_0 X) (setL [p5] [t5]) h) by kernel_rfl).trans (by rw [e_t_2, e_t_0]; rfl)
def ze9 (i_t_1 : Rn → Z → Value → Value → Value → Value → H → Option Out) (X : Rn) (args : List Value) (h : H) : Option Out :=
    uc args fun t0 args => uc args fun t1 args => un args (k2 (some (zh h (zi t0))) fun t2 h1 =>
    k2 (some ((.slice none 0 0), h1)) fun t4 h2 =>
    k2 (some (t1, h2)) fun t8 h3 =>
    k2 (zR 1 (zn (zo [(.int .i64 0)] 1) [(0 * 1, 1, t8)]) h3) fun t9 h4 =>
    k2 (some (zh h4 [(.slice none 0 0)])) fun t5 h5 =>
    k2 (zq 1 t5 t9 h5) fun _ h6 =>
    k2 (some ((.int .i64 0), h6)) fun t6 h7 =>
    X.loop [p2, p4, p5, p6] c_t_1 (kBlk 0 (kSeq X c_t_0 [p5] (KZ_t_0 X))) (fun z_1 vs h => uc vs fun t2 vs => uc vs fun t4 vs => uc vs fun t5 vs => uc vs fun t6 vs => un vs (i_t_1 X z_1 t2 t4 t5 t6 h)) [t2, t4, t5, t6] h7)
def x_t : Rn → List Value → H → Option Out := ze9 x_t_1
theorem e_t : ((fun X args h => zl X 2 f_t args h) : Rn → List Value → H → Option Out) = x_t := (show ((fun X args h => zl X 2 f_t args h) : Rn → List Value → H → Option Out) = ze9 (fun X z_1 t2 t4 t5 t6 h => sh X c_t_1 (KZ_t_1 X z_1) (setL [p2, p4, p5, p6] [t2, t4, t5, t6]) h) by kernel_rfl).trans (by rw [e_t_1]; rfl)
def ziz (X : Rn) (t3 : Value) (h : H) : Option Out :=
    k2 (some (t3, h)) fun t17 h1 =>
    k2 (some (t17, h1)) fun t2 h2 =>
    some (.val (zg [t2]) h2)
def x_x_0 : Rn → Value → H → Option Out := ziz
theorem e_x_0 : ((fun X t3 h => sh X zia (KZ_x_0 X) (setL [p3] [t3]) h) : Rn → Value → H → Option Out) = x_x_0 := by kernel_rfl
def zeG (i_x_0 : Rn → Value → H → Option Out) (X : Rn) (z_1 : Z) (t3 t6 t7 t8 : Value) (h : H) : Option Out :=
    k2 (vBin .lss .other t8 t7 h) fun t9 h1 =>
    br t9
      (k2 (zr 1 t6 t8 h1) fun t10 h2 =>
    k2 (zc t10 h2) fun t11 h3 =>
    k2 (some (t11, h3)) fun t5 h4 =>
    k2 (some (t5, h4)) fun t12 h5 =>
    k2 (some (t3, h5)) fun t13 h6 =>
    k2 (vBin .neq .other t12 t13 h6) fun t14 h7 =>
    br t14
      (k2 (some (t5, h7)) fun t15 h8 =>
    k2 (some (t15, h8)) fun t2 h9 =>
    some (.val (zg [t2]) h9))
      (k2 (vBin .add .other t8 (.int .i64 1) h7) fun t16 h10 =>
    k2 (some (t16, h10)) fun t8_11 h12 =>
    z_1 [t3, t6, t7, t8_11] h12))
      (i_x_0 X t3 h1)
def x_x_1 : Rn → Z → Value → Value → Value → Value → H → Option Out := zeG x_x_0
theorem e_x_1 : ((fun X z_1 t3 t6 t7 t8 h => sh X zh9 (KZ_x_1 X z_1) (setL [p3, p6, p7, p8] [t3, t6, t7, t8]) h) : Rn → Z → Value → Value → Value → Value → H → Option Out) = x_x_1 := (show ((fun X z_1 t3 t6 t7 t8 h => sh X zh9 (KZ_x_1 X z_1) (setL [p3, p6, p7, p8] [t3, t6, t7, t8]) h) : Rn → Z → Value → Value → Value → Value → H → Option Out) = zeG (fun X t3 h => sh X zia (KZ_x_0 X) (setL [p3] [t3]) h) by kernel_rfl).trans (by rw [e_x_0]; rfl)
def zfZ (i_x_1 : Rn → Z → Value → Value → Value → Value → H → Option Out) (X : Rn) (args : List Value) (h : H) : Option Out :=
    uc args fun t0 args => un args (k2 (some ((.int .i64 0), h)) fun t2 h1 =>
    k2 (some ((.int .i64 0), h1)) fun t3 h2 =>
    k2 (some (t0, h2)) fun t6 h3 =>
    k2 (bltV h3 .len [t6]) fun t7 h4 =>
    k2 (some ((.int .i64 0), h4)) fun t8 h5 =>
    X.loop [p3, p6, p7, p8] zh9 (kBlk 0 (kSeq X zia [p3] (KZ_x_0 X))) (fun z_1 vs h => uc vs fun t3 vs => uc vs fun t6 vs => uc vs fun t7 vs => uc vs fun t8 vs => un vs (i_x_1 X z_1 t3 t6 t7 t8 h)) [t3, t6, t7, t8] h5)
def x_x : Rn → List Value → H → Option Out := zfZ x_x_1
theorem e_x : ((fun X args h => zl X 1 f_x args h) : Rn → List Value → H → Option Out) = x_x := (show ((fun X args h => zl X 1 f_x args h) : Rn → List Value → H → Option Out) = zfZ (fun X z_1 t3 t6 t7 t8 h => sh X zh9 (KZ_x_1 X z_1) (setL [p3, p6, p7, p8] [t3, t6, t7, t8]) h) by kernel_rfl).trans (by rw [e_x_1]; rfl)
def zdW (X : Rn) (t10 t11 : Value) (h : H) : Option Out :=
    k2 ((zn [(.int .i64 0), (.int .i64 0), (.int .i64 0)] []).map fun c => (Value.agg ⟨c⟩, h)) fun t24 h1 =>
    k2 (zq 3 t10 t24 h1) fun _ h2 =>
    k2 (zq 1 t11 (.bool false) h2) fun _ h3 =>
    (vRes (some 3) t10 h3).bind fun r0 => (vRes none t11 h3).bind fun r1 => some (.val (zg [r0, r1]) h3)
def x_f_0 : Rn → Value → Value → H → Option Out := zdW
theorem e_f_0 : ((fun X t10 t11 h => sh X c_f_0 (KZ_f_0 X) (setL [p10, p11] [t10, t11]) h) : Rn → Value → Value → H → Option Out) = x_f_0 := by kernel_rfl
def zdV (X : Rn) (l : Nat) (t5 t6 t8 t9 t10 t11 t12 t16 : Value) (h : H) : Option Out :=
    k2 (zc t5 h) fun t17 h1 =>
    k2 (zj 3 t6 h1) fun t18 h2 =>
    k2 (zj 3 t12 h2) fun t19 h3 =>
    k2 (zc t8 h3) fun t20 h4 =>
    k2 (zc t9 h4) fun t21 h5 =>
    k2 (X.call (.func (.func n_g) #[] #[]) [t17, t18, t19, t20, t21] h5) fun t22 h6 =>
    br t22
      (k2 (zj 3 t12 h6) fun t23 h7 =>
    k2 (zq 3 t10 t23 h7) fun _ h8 =>
    k2 (zq 1 t11 (.bool true) h8) fun _ h9 =>
    fin l (some .ret) h9)
      (fin l none h6)
def x_f_2 : Rn → Nat → Value → Value → Value → Value → Value → Value → Value → Value → H → Option Out := zdV
theorem e_f_2 : ((fun X l t5 t6 t8 t9 t10 t11 t12 t16 h => sh X c_f_2 (KZ_f_2 X l) (setL [p5, p6, p8, p9, p10, p11, p12, p16] [t5, t6, t8, t9, t10, t11, t12, t16]) h) : Rn → Nat → Value → Value → Value → Value → Value → Value → Value → Value → H → Option Out) = x_f_2 := by kernel_rfl
def zb7 (i_f_2 : Rn → Nat → Value → Value → Value → Value → Value → Value → Value → Value → H → Option Out) (X : Rn) (l : Nat) (args : List Value) (sl : zf) (h : H) : Option Out :=
    (sl.get p5).bind fun t5 => (sl.get p6).bind fun t6 => (sl.get p8).bind fun t8 => (sl.get p9).bind fun t9 => (sl.get p10).bind fun t10 => (sl.get p11).bind fun t11 => uc args fun t16 args => un args (k2 (some (zh h [(.int .i64 0), (.int .i64 0), (.int .i64 0)])) fun t12 h1 =>
    k2 (zq 3 t12 t16 h1) fun _ h2 =>
    zfk l h2 fun h => i_f_2 X l t5 t6 t8 t9 t10 t11 t12 t16 h)
def x_f_1 : Rn → Nat → List Value → zf → H → Option Out := zb7 x_f_2
theorem e_f_1 : ((fun X l args sl h => z0 X zdz l args sl h) : Rn → Nat → List Value → zf → H → Option Out) = x_f_1 := (show ((fun X l args sl h => z0 X zdz l args sl h) : Rn → Nat → List Value → zf → H → Option Out) = zb7 (fun X l t5 t6 t8 t9 t10 t11 t12 t16 h => sh X c_f_2 (KZ_f_2 X l) (setL [p5, p6, p8, p9, p10, p11, p12, p16] [t5, t6, t8, t9, t10, t11, t12, t16]) h) by kernel_rfl).trans (by rw [e_f_2]; rfl)
def zcx (i_f_0 : Rn → Value → Value → H → Option Out) (X : Rn) (args : List Value) (h : H) : Option Out :=
    uc args fun t0 args => uc args fun t1 args => uc args fun t2 args => uc args fun t3 args => uc args fun t4 args => un args (k2 (some (zh h (zi t0))) fun t5 h1 =>
    k2 (some (zh h1 (zi t1))) fun t6 h2 =>
    k2 (some (zh h2 (zi t3))) fun t8 h3 =>
    k2 (some (zh h3 (zi t4))) fun t9 h4 =>
    k2 (some (zh h4 [(.int .i64 0), (.int .i64 0), (.int .i64 0)])) fun t10 h5 =>
    k2 (some (zh h5 [(.bool false)])) fun t11 h6 =>
    k2 (zj 3 t6 h6) fun t13 h7 =>
    k2 (some (t2, h7)) fun t14 h8 =>
    k2 (X.call (.func (.func n_D) #[] #[]) [t13, t14] h8) fun t15 h9 =>
    (isFn t15).bind fun fv => k2 (X.call fv [.func (.yield h9.next) #[] #[]] (h9.new (.loop .ready none (setL [p5, p6, p8, p9, p10, p11] [t5, t6, t8, t9, t10, t11]) zdz))) fun _ h10 =>
    rgP h9.next h10 (fun h11 => i_f_0 X t10 t11 h11) (fun i h11 => bx i 0 (i_f_0 X t10 t11 h11) (none)) (fun h11 => (vRes (some 3) t10 h11).bind fun r0 => (vRes none t11 h11).bind fun r1 => some (.val (zg [r0, r1]) h11)))
def x_f : Rn → List Value → H → Option Out := zcx x_f_0
theorem e_f : ((fun X args h => zl X 5 f_f args h) : Rn → List Value → H → Option Out) = x_f := (show ((fun X args h => zl X 5 f_f args h) : Rn → List Value → H → Option Out) = zcx (fun X t10 t11 h => sh X c_f_0 (KZ_f_0 X) (setL [p10, p11] [t10, t11]) h) by kernel_rfl).trans (by rw [e_f_0]; rfl)
def T_judge_leads (X : Rn) (args : List Value) (h : H) : Option Out :=
    uc args fun t0 args => uc args fun t1 args => uc args fun t2 args => un args (k2 (some (zh h (zi t0))) fun t3 h1 =>
    k2 (some (zh h1 (zi t1))) fun t4 h2 =>
    k2 (some (zh h2 (zi t2))) fun t5 h3 =>
    k2 (some (.nilFunc, h3)) fun t6 h4 =>
    k2 (some (.func (.func n_G) ⟨[]⟩ ⟨[t3, t4, t5]⟩, h4)) fun t7 h5 =>
    k2 (some (t7, h5)) fun t6 h6 =>
    some (.val (zg [t6]) h6))
def x_B : Rn → List Value → H → Option Out := T_judge_leads
theorem e_B : ((fun X args h => zl X 3 f_B args h) : Rn → List Value → H → Option Out) = x_B := by kernel_rfl
def zbq (X : Rn) (args : List Value) (h : H) : Option Out :=
    uc args fun t0 args => un args (k2 (some ((.slice none 0 0), h)) fun t2 h1 =>
    k2 (some (t0, h1)) fun t3 h2 =>
    k2 (vBin .eql .slice t3 (.slice none 0 0) h2) fun t4 h3 =>
    br t4
      (k2 (some ((.slice none 0 0), h3)) fun t2 h4 =>
    some (.val (zg [t2]) h4))
      (k2 (zR 0 (zn (zo [(.int .i64 0), (.int .i64 0), (.int .i64 0)] 0) []) h3) fun t5 h5 =>
    k2 (some (t0, h5)) fun t6 h6 =>
    k2 (bltV h6 (.append 3 24) [t5, t6]) fun t7 h7 =>
    k2 (some (t7, h7)) fun t2 h8 =>
    some (.val (zg [t2]) h8)))
def x_l : Rn → List Value → H → Option Out := zbq
theorem e_l : ((fun X args h => zl X 1 f_l args h) : Rn → List Value → H → Option Out) = x_l := by kernel_rfl
def zgt (X : Rn) (z_0 : Z) (t0 t2 t18 t19 t20 : Value) (h : H) : Option Out :=
    k2 (vBin .lss .other t20 t19 h) fun t21 h1 =>
    br t21
      (k2 (zr 3 t18 t20 h1) fun t22 h2 =>
    k2 (zj 3 t22 h2) fun t23 h3 =>
    k2 (some (zh h3 [(.int .i64 0), (.int .i64 0), (.int .i64 0)])) fun t7 h4 =>
    k2 (zq 3 t7 t23 h4) fun _ h5 =>
    k2 (zd 0 t7 h5) fun t24 h6 =>
    k2 (zc t24 h6) fun t25 h7 =>
    k2 (zc t2 h7) fun t26 h8 =>
    k2 (vBin .neq .other t25 t26 h8) fun t27 h9 =>
    k2 (some (t27, h9)) fun t28 h10 =>
    k2 (gd t28 false h10 (some (t0, h10))) fun t29 h11 =>
    k2 (gd t28 false h11 (zj 3 t7 h11)) fun t30 h12 =>
    k2 (gd t28 false h12 (X.call t29 [t30] h12)) fun t31 h13 =>
    k2 (gd t28 false h13 (vUn .not t31 h13)) fun t32 h14 =>
    k2 (zD t28 (.bool true) t32 h14) fun t33 h15 =>
    br t33
      (some (.val (zg []) h15))
      (k2 (vBin .add .other t20 (.int .i64 1) h15) fun t34 h16 =>
    k2 (some (t34, h16)) fun t20_17 h18 =>
    z_0 [t0, t2, t18, t19, t20_17] h18))
      (some (.val (zg []) h1))
def x_C_0 : Rn → Z → Value → Value → Value → Value → Value → H → Option Out := zgt
theorem e_C_0 : ((fun X z_0 t0 t2 t18 t19 t20 h => sh X zic (KZ_C_0 X z_0) (setL [p0, p2, p18, p19, p20] [t0, t2, t18, t19, t20]) h) : Rn → Z → Value → Value → Value → Value → Value → H → Option Out) = x_C_0 := by kernel_rfl
def zeu (i_C_0 : Rn → Z → Value → Value → Value → Value → Value → H → Option Out) (X : Rn) (args : List Value) (h : H) : Option Out :=
    uc args fun t0 args => uc args fun t1 args => uc args fun t2 args => un args (k2 (zd 2 t1 h) fun t9 h1 =>
    k2 (zc t9 h1) fun t10 h2 =>
    k2 (zc t2 h2) fun t11 h3 =>
    k2 (X.call (.func (.func n_b) #[] #[]) [t10, t11, (.func (.func n_U) #[] #[])] h3) fun t12 h4 =>
    k2 (some (t12, h4)) fun t8 h5 =>
    k2 (zm 0 t8 h5) fun t13 h6 =>
    k2 (zm 1 t8 h6) fun t14 h7 =>
    k2 (some (t13, h7)) fun t4 h8 =>
    k2 (some (t14, h8)) fun t5 h9 =>
    k2 (zd 2 t1 h9) fun t15 h10 =>
    k2 (zc t15 h10) fun t16 h11 =>
    k2 (some (t4, h11)) fun t17 h12 =>
    k2 (zd2 3 h12 (some t17) none t16) fun t18 h13 =>
    k2 (bltV h13 .len [t18]) fun t19 h14 =>
    k2 (some ((.int .i64 0), h14)) fun t20 h15 =>
    X.loop [p0, p2, p18, p19, p20] zic (kBlk 0 (fnK [])) (fun z_0 vs h => uc vs fun t0 vs => uc vs fun t2 vs => uc vs fun t18 vs => uc vs fun t19 vs => uc vs fun t20 vs => un vs (i_C_0 X z_0 t0 t2 t18 t19 t20 h)) [t0, t2, t18, t19, t20] h15)
def x_C : Rn → List Value → H → Option Out := zeu x_C_0
theorem e_C : ((fun X args h => zl X 3 f_C args h) : Rn → List Value → H → Option Out) = x_C := (show ((fun X args h => zl X 3 f_C args h) : Rn → List Value → H → Option Out) = zeu (fun X z_0 t0 t2 t18 t19 t20 h => sh X zic (KZ_C_0 X z_0) (setL [p0, p2, p18, p19, p20] [t0, t2, t18, t19, t20]) h) by kernel_rfl).trans (by rw [e_C_0]; rfl)
def zT (X : Rn) (t0 t1 t2 t8 t9 : Value) (h : H) : Option Out :=
    k2 (some (t9, h)) fun t35 h1 =>
    k2 (some (t9, h1)) fun t36 h2 =>
    k2 (some (t8, h2)) fun t37 h3 =>
    k2 (vBin .lss .other t36 t37 h3) fun t38 h4 =>
    k2 (some (t38, h4)) fun t39 h5 =>
    k2 (gd t39 true h5 (some (t2, h5))) fun t40 h6 =>
    k2 (gd t39 true h6 (some (t0, h6))) fun t41 h7 =>
    k2 (gd t39 true h7 (some (t9, h7))) fun t42 h8 =>
    k2 (gd t39 true h8 (zr 3 t41 t42 h8)) fun t43 h9 =>
    k2 (gd t39 true h9 (zj 3 t43 h9)) fun t44 h10 =>
    k2 (gd t39 true h10 (some (t1, h10))) fun t45 h11 =>
    k2 (gd t39 true h11 (X.call t40 [t44, t45] h11)) fun t46 h12 =>
    k2 (gd t39 true h12 (vBin .eql .other t46 (.int .i64 0) h12)) fun t47 h13 =>
    k2 (zD t39 t47 (.bool false) h13) fun t48 h14 =>
    k2 (some (t35, h14)) fun t6 h15 =>
    k2 (some (t48, h15)) fun t7 h16 =>
    some (.val (zg [t6, t7]) h16)
def x_b_0 : Rn → Value → Value → Value → Value → Value → H → Option Out := zT
theorem e_b_0 : ((fun X t0 t1 t2 t8 t9 h => sh X zg6 (KZ_b_0 X) (setL [p0, p1, p2, p8, p9] [t0, t1, t2, t8, t9]) h) : Rn → Value → Value → Value → Value → Value → H → Option Out) = x_b_0 := by kernel_rfl
def zC (i_b_0 : Rn → Value → Value → Value → Value → Value → H → Option Out) (X : Rn) (z_1 : Z) (t0 t1 t2 t8 t9 t10 : Value) (h : H) : Option Out :=
    k2 (some (t9, h)) fun t15 h1 =>
    k2 (some (t10, h1)) fun t16 h2 =>
    k2 (vBin .lss .other t15 t16 h2) fun t17 h3 =>
    br t17
      (k2 (some (t9, h3)) fun t18 h4 =>
    k2 (some (t10, h4)) fun t19 h5 =>
    k2 (vBin .add .other t18 t19 h5) fun t20 h6 =>
    k2 (vConv .u64 t20 h6) fun t21 h7 =>
    k2 (vBin .shr .other t21 (.int .u64 1) h7) fun t22 h8 =>
    k2 (vConv .i64 t22 h8) fun t23 h9 =>
    k2 (some (t23, h9)) fun t11 h10 =>
    k2 (some (t2, h10)) fun t24 h11 =>
    k2 (some (t0, h11)) fun t25 h12 =>
    k2 (some (t11, h12)) fun t26 h13 =>
    k2 (zr 3 t25 t26 h13) fun t27 h14 =>
    k2 (zj 3 t27 h14) fun t28 h15 =>
    k2 (some (t1, h15)) fun t29 h16 =>
    k2 (X.call t24 [t28, t29] h16) fun t30 h17 =>
    k2 (vBin .lss .other t30 (.int .i64 0) h17) fun t31 h18 =>
    br t31
      (k2 (some (t11, h18)) fun t32 h19 =>
    k2 (vBin .add .other t32 (.int .i64 1) h19) fun t33 h20 =>
    k2 (some (t33, h20)) fun t9_21 h22 =>
    z_1 [t0, t1, t2, t8, t9_21, t10] h22)
      (k2 (some (t11, h18)) fun t34 h23 =>
    k2 (some (t34, h23)) fun t10_24 h25 =>
    z_1 [t0, t1, t2, t8, t9, t10_24] h25))
      (i_b_0 X t0 t1 t2 t8 t9 h3)
def x_b_1 : Rn → Z → Value → Value → Value → Value → Value → Value → H → Option Out := zC x_b_0
theorem e_b_1 : ((fun X z_1 t0 t1 t2 t8 t9 t10 h => sh X zgp (KZ_b_1 X z_1) (setL [p0, p1, p2, p8, p9, p10] [t0, t1, t2, t8, t9, t10]) h) : Rn → Z → Value → Value → Value → Value → Value → Value → H → Option Out) = x_b_1 := (show ((fun X z_1 t0 t1 t2 t8 t9 t10 h => sh X zgp (KZ_b_1 X z_1) (setL [p0, p1, p2, p8, p9, p10] [t0, t1, t2, t8, t9, t10]) h) : Rn → Z → Value → Value → Value → Value → Value → Value → H → Option Out) = zC (fun X t0 t1 t2 t8 t9 h => sh X zg6 (KZ_b_0 X) (setL [p0, p1, p2, p8, p9] [t0, t1, t2, t8, t9]) h) by kernel_rfl).trans (by rw [e_b_0]; rfl)
def zE (i_b_1 : Rn → Z → Value → Value → Value → Value → Value → Value → H → Option Out) (X : Rn) (args : List Value) (h : H) : Option Out :=
    uc args fun t0 args => uc args fun t1 args => uc args fun t2 args => un args (k2 (some ((.int .i64 0), h)) fun t6 h1 =>
    k2 (some ((.bool false), h1)) fun t7 h2 =>
    k2 (some (t0, h2)) fun t12 h3 =>
    k2 (bltV h3 .len [t12]) fun t13 h4 =>
    k2 (some (t13, h4)) fun t8 h5 =>
    k2 (some (t8, h5)) fun t14 h6 =>
    k2 (some ((.int .i64 0), h6)) fun t9 h7 =>
    k2 (some (t14, h7)) fun t10 h8 =>
    X.loop [p0, p1, p2, p8, p9, p10] zgp (kBlk 0 (kSeq X zg6 [p0, p1, p2, p8, p9] (KZ_b_0 X))) (fun z_1 vs h => uc vs fun t0 vs => uc vs fun t1 vs => uc vs fun t2 vs => uc vs fun t8 vs => uc vs fun t9 vs => uc vs fun t10 vs => un vs (i_b_1 X z_1 t0 t1 t2 t8 t9 t10 h)) [t0, t1, t2, t8, t9, t10] h8)
def x_b : Rn → List Value → H → Option Out := zE x_b_1
theorem e_b : ((fun X args h => zl X 3 f_b args h) : Rn → List Value → H → Option Out) = x_b := (show ((fun X args h => zl X 3 f_b args h) : Rn → List Value → H → Option Out) = zE (fun X z_1 t0 t1 t2 t8 t9 t10 h => sh X zgp (KZ_b_1 X z_1) (setL [p0, p1, p2, p8, p9, p10] [t0, t1, t2, t8, t9, t10]) h) by kernel_rfl).trans (by rw [e_b_1]; rfl)
def zgs (X : Rn) (args : List Value) (h : H) : Option Out :=
    uc args fun t0 args => uc args fun t1 args => un args (k2 (some (zh h (zi t0))) fun t2 h1 =>
    k2 (some ((.int .i64 0), h1)) fun t4 h2 =>
    k2 (zd 0 t2 h2) fun t5 h3 =>
    k2 (zc t5 h3) fun t6 h4 =>
    k2 (some (t1, h4)) fun t7 h5 =>
    k2 (X.call (.func (.func n_E) #[] #[]) [t6, t7] h5) fun t8 h6 =>
    k2 (some (t8, h6)) fun t4 h7 =>
    some (.val (zg [t4]) h7))
def x_U : Rn → List Value → H → Option Out := zgs
theorem e_U : ((fun X args h => zl X 2 f_U args h) : Rn → List Value → H → Option Out) = x_U := by kernel_rfl
def zc9 (X : Rn) (h : H) : Option Out :=
    k2 (some ((.int .i64 (-1)), h)) fun t4 h1 =>
    some (.val (zg [t4]) h1)
def x_v_0 : Rn → H → Option Out := zc9
theorem e_v_0 : ((fun X h => sh X c_v_0 (KZ_v_0 X) (setL [] []) h) : Rn → H → Option Out) = x_v_0 := by kernel_rfl
def zbI (i_v_0 : Rn → H → Option Out) (X : Rn) (z_1 : Z) (t0 t1 t7 t8 : Value) (h : H) : Option Out :=
    k2 (vBin .lss .other t8 t7 h) fun t9 h1 =>
    br t9
      (k2 (some (t8, h1)) fun t10 h2 =>
    k2 (some (t10, h2)) fun t5 h3 =>
    k2 (some (t1, h3)) fun t11 h4 =>
    k2 (some (t0, h4)) fun t12 h5 =>
    k2 (some (t5, h5)) fun t13 h6 =>
    k2 (zr 1 t12 t13 h6) fun t14 h7 =>
    k2 (zc t14 h7) fun t15 h8 =>
    k2 (vBin .eql .other t11 t15 h8) fun t16 h9 =>
    br t16
      (k2 (some (t5, h9)) fun t17 h10 =>
    k2 (some (t17, h10)) fun t4 h11 =>
    some (.val (zg [t4]) h11))
      (k2 (vBin .add .other t8 (.int .i64 1) h9) fun t18 h12 =>
    k2 (some (t18, h12)) fun t8_13 h14 =>
    z_1 [t0, t1, t7, t8_13] h14))
      (i_v_0 X h1)
def x_v_1 : Rn → Z → Value → Value → Value → Value → H → Option Out := zbI x_v_0
theorem e_v_1 : ((fun X z_1 t0 t1 t7 t8 h => sh X c_v_1 (KZ_v_1 X z_1) (setL [p0, p1, p7, p8] [t0, t1, t7, t8]) h) : Rn → Z → Value → Value → Value → Value → H → Option Out) = x_v_1 := (show ((fun X z_1 t0 t1 t7 t8 h => sh X c_v_1 (KZ_v_1 X z_1) (setL [p0, p1, p7, p8] [t0, t1, t7, t8]) h) : Rn → Z → Value → Value → Value → Value → H → Option Out) = zbI (fun X h => sh X c_v_0 (KZ_v_0 X) (setL [] []) h) by kernel_rfl).trans (by rw [e_v_0]; rfl)
def zb2 (i_v_1 : Rn → Z → Value → Value → Value → Value → H → Option Out) (X : Rn) (args : List Value) (h : H) : Option Out :=
    uc args fun t0 args => uc args fun t1 args => un args (k2 (some ((.int .i64 0), h)) fun t4 h1 =>
    k2 (some (t0, h1)) fun t6 h2 =>
    k2 (bltV h2 .len [t6]) fun t7 h3 =>
    k2 (some ((.int .i64 0), h3)) fun t8 h4 =>
    X.loop [p0, p1, p7, p8] c_v_1 (kBlk 0 (kSeq X c_v_0 [] (KZ_v_0 X))) (fun z_1 vs h => uc vs fun t0 vs => uc vs fun t1 vs => uc vs fun t7 vs => uc vs fun t8 vs => un vs (i_v_1 X z_1 t0 t1 t7 t8 h)) [t0, t1, t7, t8] h4)
def x_v : Rn → List Value → H → Option Out := zb2 x_v_1
theorem e_v : ((fun X args h => zl X 2 f_v args h) : Rn → List Value → H → Option Out) = x_v := (show ((fun X args h => zl X 2 f_v args h) : Rn → List Value → H → Option Out) = zb2 (fun X z_1 t0 t1 t7 t8 h => sh X c_v_1 (KZ_v_1 X z_1) (setL [p0, p1, p7, p8] [t0, t1, t7, t8]) h) by kernel_rfl).trans (by rw [e_v_1]; rfl)
def zha (X : Rn) (args : List Value) (h : H) : Option Out :=
    uc args fun t0 args => un args (k2 (some ((.bool false), h)) fun t2 h1 =>
    k2 (some (t0, h1)) fun t3 h2 =>
    k2 (some (t0, h2)) fun t4 h3 =>
    k2 (vBin .neq .other t3 t4 h3) fun t5 h4 =>
    k2 (some (t5, h4)) fun t2 h5 =>
    some (.val (zg [t2]) h5))
def x_H : Rn → List Value → H → Option Out := zha
theorem e_H : ((fun X args h => zl X 1 f_H args h) : Rn → List Value → H → Option Out) = x_H := by kernel_rfl
def zew (X : Rn) (t10 : Value) (h : H) : Option Out :=
    k2 (zq 1 t10 (.bool true) h) fun _ h1 =>
    (vRes none t10 h1).bind fun r0 => some (.val (zg [r0]) h1)
def x_g_0 : Rn → Value → H → Option Out := zew
theorem e_g_0 : ((fun X t10 h => sh X c_g_0 (KZ_g_0 X) (setL [p10] [t10]) h) : Rn → Value → H → Option Out) = x_g_0 := by kernel_rfl
def zev (X : Rn) (l : Nat) (t5 t7 t9 t10 t11 t20 : Value) (h : H) : Option Out :=
    k2 (zd 1 t7 h) fun t21 h1 =>
    k2 (zc t21 h1) fun t22 h2 =>
    k2 (some (t11, h2)) fun t23 h3 =>
    k2 ((zn [(.int .i64 0), (.int .i64 0)] [(0, 1, t22), (1, 1, t23)]).map fun c => (Value.agg ⟨c⟩, h3)) fun t24 h4 =>
    k2 (some (zh h4 [(.int .i64 0), (.int .i64 0)])) fun t12 h5 =>
    k2 (zq 2 t12 t24 h5) fun _ h6 =>
    k2 (zc t5 h6) fun t26 h7 =>
    k2 (zj 2 t12 h7) fun t27 h8 =>
    k2 (zbM (.leaves [0, 1]) (.int .i64 0) true t26 t27 h8) fun t28 h9 =>
    k2 (some (t28, h9)) fun t25 h10 =>
    k2 (zm 0 t25 h10) fun t29 h11 =>
    k2 (zm 1 t25 h11) fun t30 h12 =>
    k2 (some (t29, h12)) fun t13 h13 =>
    k2 (some (t30, h13)) fun t14 h14 =>
    k2 (zj 2 t12 h14) fun t31 h15 =>
    k2 (some (t11, h15)) fun t32 h16 =>
    k2 (some (t11, h16)) fun t33 h17 =>
    k2 ((zn [(.int .i64 0), (.int .i64 0)] [(0, 1, t32), (1, 1, t33)]).map fun c => (Value.agg ⟨c⟩, h17)) fun t34 h18 =>
    k2 (vBin .eql (.leaves [0, 1]) t31 t34 h18) fun t35 h19 =>
    k2 (some (t35, h19)) fun t36 h20 =>
    k2 (gd t36 false h20 (some (t14, h20))) fun t37 h21 =>
    k2 (gd t36 false h21 (vUn .not t37 h21)) fun t38 h22 =>
    k2 (zD t36 (.bool true) t38 h22) fun t39 h23 =>
    k2 (some (t39, h23)) fun t40 h24 =>
    k2 (gd t40 false h24 (some (t13, h24))) fun t41 h25 =>
    k2 (gd t40 false h25 (zc t9 h25)) fun t42 h26 =>
    k2 (gd t40 false h26 (vBin .gtr .other t41 t42 h26)) fun t43 h27 =>
    k2 (zD t40 (.bool true) t43 h27) fun t44 h28 =>
    br t44
      (k2 (zq 1 t10 (.bool false) h28) fun _ h29 =>
    fin l (some .ret) h29)
      (fin l none h28)
def x_g_2 : Rn → Nat → Value → Value → Value → Value → Value → Value → H → Option Out := zev
theorem e_g_2 : ((fun X l t5 t7 t9 t10 t11 t20 h => sh X c_g_2 (KZ_g_2 X l) (setL [p5, p7, p9, p10, p11, p20] [t5, t7, t9, t10, t11, t20]) h) : Rn → Nat → Value → Value → Value → Value → Value → Value → H → Option Out) = x_g_2 := by kernel_rfl
def zcq (i_g_2 : Rn → Nat → Value → Value → Value → Value → Value → Value → H → Option Out) (X : Rn) (l : Nat) (args : List Value) (sl : zf) (h : H) : Option Out :=
    (sl.get p5).bind fun t5 => (sl.get p7).bind fun t7 => (sl.get p9).bind fun t9 => (sl.get p10).bind fun t10 => uc args fun t20 args => un args (k2 (some (t20, h)) fun t11 h1 =>
    zfk l h1 fun h => i_g_2 X l t5 t7 t9 t10 t11 t20 h)
def x_g_1 : Rn → Nat → List Value → zf → H → Option Out := zcq x_g_2
theorem e_g_1 : ((fun X l args sl h => z0 X zdd l args sl h) : Rn → Nat → List Value → zf → H → Option Out) = x_g_1 := (show ((fun X l args sl h => z0 X zdd l args sl h) : Rn → Nat → List Value → zf → H → Option Out) = zcq (fun X l t5 t7 t9 t10 t11 t20 h => sh X c_g_2 (KZ_g_2 X l) (setL [p5, p7, p9, p10, p11, p20] [t5, t7, t9, t10, t11, t20]) h) by kernel_rfl).trans (by rw [e_g_2]; rfl)
def zcT (i_g_0 : Rn → Value → H → Option Out) (X : Rn) (args : List Value) (h : H) : Option Out :=
    uc args fun t0 args => uc args fun t1 args => uc args fun t2 args => uc args fun t3 args => uc args fun t4 args => un args (k2 (some (zh h (zi t0))) fun t5 h1 =>
    k2 (some (zh h1 (zi t1))) fun t6 h2 =>
    k2 (some (zh h2 (zi t2))) fun t7 h3 =>
    k2 (some (zh h3 (zi t4))) fun t9 h4 =>
    k2 (some (zh h4 [(.bool false)])) fun t10 h5 =>
    k2 (zj 3 t6 h5) fun t15 h6 =>
    k2 (some (t3, h6)) fun t16 h7 =>
    k2 (zd 2 t7 h7) fun t17 h8 =>
    k2 (zc t17 h8) fun t18 h9 =>
    k2 (X.call (.func (.func n_B) #[] #[]) [t15, t16, t18] h9) fun t19 h10 =>
    (isFn t19).bind fun fv => k2 (X.call fv [.func (.yield h10.next) #[] #[]] (h10.new (.loop .ready none (setL [p5, p7, p9, p10] [t5, t7, t9, t10]) zdd))) fun _ h11 =>
    rgP h10.next h11 (fun h12 => i_g_0 X t10 h12) (fun i h12 => bx i 0 (i_g_0 X t10 h12) (none)) (fun h12 => (vRes none t10 h12).bind fun r0 => some (.val (zg [r0]) h12)))
def x_g : Rn → List Value → H → Option Out := zcT x_g_0
theorem e_g : ((fun X args h => zl X 5 f_g args h) : Rn → List Value → H → Option Out) = x_g := (show ((fun X args h => zl X 5 f_g args h) : Rn → List Value → H → Option Out) = zcT (fun X t10 h => sh X c_g_0 (KZ_g_0 X) (setL [p10] [t10]) h) by kernel_rfl).trans (by rw [e_g_0]; rfl)
def zgu (X : Rn) (l : Nat) (t3 t4 t5 t9 : Value) (h : H) : Option Out :=
    k2 (zd 2 t5 h) fun t10 h1 =>
    k2 (zc t10 h1) fun t11 h2 =>
    k2 (zc t3 h2) fun t12 h3 =>
    k2 (vBin .eql .other t11 t12 h3) fun t13 h4 =>
    k2 (some (t13, h4)) fun t14 h5 =>
    k2 (gd t14 true h5 (zc t4 h5)) fun t15 h6 =>
    k2 (gd t14 true h6 (zd 1 t5 h6)) fun t16 h7 =>
    k2 (gd t14 true h7 (zc t16 h7)) fun t17 h8 =>
    k2 (gd t14 true h8 (X.call t15 [t17] h8)) fun t18 h9 =>
    k2 (gd t14 true h9 (vUn .not t18 h9)) fun t19 h10 =>
    k2 (zD t14 t19 (.bool false) h10) fun t20 h11 =>
    br t20
      (fin l (some .ret) h11)
      (fin l none h11)
def x_G_1 : Rn → Nat → Value → Value → Value → Value → H → Option Out := zgu
theorem e_G_1 : ((fun X l t3 t4 t5 t9 h => sh X c_G_1 (KZ_G_1 X l) (setL [p3, p4, p5, p9] [t3, t4, t5, t9]) h) : Rn → Nat → Value → Value → Value → Value → H → Option Out) = x_G_1 := by kernel_rfl
def zdo (i_G_1 : Rn → Nat → Value → Value → Value → Value → H → Option Out) (X : Rn) (l : Nat) (args : List Value) (sl : zf) (h : H) : Option Out :=
    (sl.get p3).bind fun t3 => (sl.get p4).bind fun t4 => uc args fun t9 args => un args (k2 (some (zh h [(.int .i64 0), (.int .i64 0), (.int .i64 0)])) fun t5 h1 =>
    k2 (zq 3 t5 t9 h1) fun _ h2 =>
    zfk l h2 fun h => i_G_1 X l t3 t4 t5 t9 h)
def x_G_0 : Rn → Nat → List Value → zf → H → Option Out := zdo x_G_1
theorem e_G_0 : ((fun X l args sl h => z0 X zd8 l args sl h) : Rn → Nat → List Value → zf → H → Option Out) = x_G_0 := (show ((fun X l args sl h => z0 X zd8 l args sl h) : Rn → Nat → List Value → zf → H → Option Out) = zdo (fun X l t3 t4 t5 t9 h => sh X c_G_1 (KZ_G_1 X l) (setL [p3, p4, p5, p9] [t3, t4, t5, t9]) h) by kernel_rfl).trans (by rw [e_G_1]; rfl)
def ziq (X : Rn) (args : List Value) (h : H) : Option Out :=
    uc args fun t0 args => uc args fun t1 args => uc args fun t2 args => uc args fun t3 args => un args (k2 (some (zh h (zi t0))) fun t4 h1 =>
    k2 (zj 3 t1 h1) fun t6 h2 =>
    k2 (zc t2 h2) fun t7 h3 =>
    k2 (X.call (.func (.func n_D) #[] #[]) [t6, t7] h3) fun t8 h4 =>
    (isFn t8).bind fun fv => k2 (X.call fv [.func (.yield h4.next) #[] #[]] (h4.new (.loop .ready none (setL [p3, p4] [t3, t4]) zd8))) fun _ h5 =>
    rgP h4.next h5 (fun h6 => some (.val (zg []) h6)) (fun i h6 => bx i 0 (some (.val (zg []) h6)) (none)) (fun h6 => some (.val (zg []) h6)))
def x_G : Rn → List Value → H → Option Out := ziq
theorem e_G : ((fun X args h => zl X 4 f_G args h) : Rn → List Value → H → Option Out) = x_G := by kernel_rfl
def tabT : List (Nat × (Rn → List Value → H → Option Out)) := [(n_S, x_S), (n_o, x_o), (n_r, x_r), (n_F, x_F), (n_R, x_R), (n_n, x_n), (n_L, x_L), (n_Q, x_Q), (n_s, x_s), (n_e, x_e), (n_J, x_J), (n_w, x_w), (n_h, x_h), (n_P, x_P), (n_d, x_d), (n_u, x_u), (n_p, x_p), (n_N, x_N), (n_y, x_y), (n_m, x_m), (n_D, x_D), (n_I, x_I), (n_E, x_E), (n_t, x_t), (n_x, x_x), (n_f, x_f), (n_B, x_B), (n_l, x_l), (n_C, x_C), (n_b, x_b), (n_U, x_U), (n_v, x_v), (n_H, x_H), (n_g, x_g), (n_G, x_G)]
def tabR : List (RC × (Rn → Nat → List Value → zf → H → Option Out)) := [(r_e_10, x_e_10), (r_u_1, x_u_1), (r_p_1, x_p_1), (r_t_3, x_t_3), (zdz, x_f_1), (zdd, x_g_1), (zd8, x_G_0)]
end Go.Ideal.X
end
set_option maxHeartbeats 4000000
noncomputable section
namespace Go.Ideal.X
open Go Go.Ideal Go.Ideal.J
theorem F_S : zbe tabF n_S = some f_S := by kernel_rfl
theorem F_o : zbe tabF n_o = some f_o := by kernel_rfl
theorem F_r : zbe tabF n_r = some f_r := by kernel_rfl
theorem F_F : zbe tabF n_F = some f_F := by kernel_rfl
theorem F_R : zbe tabF n_R = some f_R := by kernel_rfl
theorem F_n : zbe tabF n_n = some f_n := by kernel_rfl
theorem F_L : zbe tabF n_L = some f_L := by kernel_rfl
theorem F_Q : zbe tabF n_Q = some f_Q := by kernel_rfl
theorem F_s : zbe tabF n_s = some f_s := by kernel_rfl
theorem F_e : zbe tabF n_e = some f_e := by kernel_rfl
theorem F_J : zbe tabF n_J = some f_J := by kernel_rfl
theorem F_w : zbe tabF n_w = some f_w := by kernel_rfl
theorem F_h : zbe tabF n_h = some f_h := by kernel_rfl
theorem F_P : zbe tabF n_P = some f_P := by kernel_rfl
theorem F_d : zbe tabF n_d = some f_d := by kernel_rfl
theorem F_u : zbe tabF n_u = some f_u := by kernel_rfl
theorem F_p : zbe tabF n_p = some f_p := by kernel_rfl
theorem F_N : zbe tabF n_N = some f_N := by kernel_rfl
theorem F_y : zbe tabF n_y = some f_y := by kernel_rfl
theorem F_m : zbe tabF n_m = some f_m := by kernel_rfl
theorem F_D : zbe tabF n_D = some f_D := by kernel_rfl
theorem F_I : zbe tabF n_I = some f_I := by kernel_rfl
theorem F_E : zbe tabF n_E = some f_E := by kernel_rfl
theorem F_t : zbe tabF n_t = some f_t := by kernel_rfl
theorem F_x : zbe tabF n_x = some f_x := by kernel_rfl
theorem F_f : zbe tabF n_f = some f_f := by kernel_rfl
theorem F_B : zbe tabF n_B = some f_B := by kernel_rfl
theorem F_l : zbe tabF n_l = some f_l := by kernel_rfl
theorem F_C : zbe tabF n_C = some f_C := by kernel_rfl
theorem F_b : zbe tabF n_b = some f_b := by kernel_rfl
theorem F_U : zbe tabF n_U = some f_U := by kernel_rfl
theorem F_v : zbe tabF n_v = some f_v := by kernel_rfl
theorem F_H : zbe tabF n_H = some f_H := by kernel_rfl
theorem F_g : zbe tabF n_g = some f_g := by kernel_rfl
theorem F_G : zbe tabF n_G = some f_G := by kernel_rfl
theorem okT : ∀ p ∈ tabT, ∃ cf n, zbe tabF p.1 = some cf ∧ n ≤ cf.ntmps ∧ (fun X args h => zl X n cf args h) = p.2 :=
  (List.forall_mem_cons.2 ⟨⟨f_S, 1, F_S, by decide, e_S⟩, (List.forall_mem_cons.2 ⟨⟨f_o, 1, F_o, by decide, e_o⟩, (List.forall_mem_cons.2 ⟨⟨f_r, 2, F_r, by decide, e_r⟩, (List.forall_mem_cons.2 ⟨⟨f_F, 0, F_F, by decide, e_F⟩, (List.forall_mem_cons.2 ⟨⟨f_R, 3, F_R, by decide, e_R⟩, (List.forall_mem_cons.2 ⟨⟨f_n, 2, F_n, by decide, e_n⟩, (List.forall_mem_cons.2 ⟨⟨f_L, 2, F_L, by decide, e_L⟩, (List.forall_mem_cons.2 ⟨⟨f_Q, 1, F_Q, by decide, e_Q⟩, (List.forall_mem_cons.2 ⟨⟨f_s, 2, F_s, by decide, e_s⟩, (List.forall_mem_cons.2 ⟨⟨f_e, 1, F_e, by decide, e_e⟩, (List.forall_mem_cons.2 ⟨⟨f_J, 2, F_J, by decide, e_J⟩, (List.forall_mem_cons.2 ⟨⟨f_w, 1, F_w, by decide, e_w⟩, (List.forall_mem_cons.2 ⟨⟨f_h, 2, F_h, by decide, e_h⟩, (List.forall_mem_cons.2 ⟨⟨f_P, 2, F_P, by decide, e_P⟩, (List.forall_mem_cons.2 ⟨⟨f_d, 1, F_d, by decide, e_d⟩, (List.forall_mem_cons.2 ⟨⟨f_u, 3, F_u, by decide, e_u⟩, (List.forall_mem_cons.2 ⟨⟨f_p, 3, F_p, by decide, e_p⟩, (List.forall_mem_cons.2 ⟨⟨f_N, 2, F_N, by decide, e_N⟩, (List.forall_mem_cons.2 ⟨⟨f_y, 2, F_y, by decide, e_y⟩, (List.forall_mem_cons.2 ⟨⟨f_m, 1, F_m, by decide, e_m⟩, (List.forall_mem_cons.2 ⟨⟨f_D, 2, F_D, by decide, e_D⟩, (List.forall_mem_cons.2 ⟨⟨f_I, 2, F_I, by decide, e_I⟩, (List.forall_mem_cons.2 ⟨⟨f_E, 2, F_E, by decide, e_E⟩, (List.forall_mem_cons.2 ⟨⟨f_t, 2, F_t, by decide, e_t⟩, (List.forall_mem_cons.2 ⟨⟨f_x, 1, F_x, by decide, e_x⟩, (List.forall_mem_cons.2 ⟨⟨f_f, 5, F_f, by decide, e_f⟩, (List.forall_mem_cons.2 ⟨⟨f_B, 3, F_B, by decide, e_B⟩, (List.forall_mem_cons.2 ⟨⟨f_l, 1, F_l, by decide, e_l⟩, (List.forall_mem_cons.2 ⟨⟨f_C, 3, F_C, by decide, e_C⟩, (List.forall_mem_cons.2 ⟨⟨f_b, 3, F_b, by decide, e_b⟩, (List.forall_mem_cons.2 ⟨⟨f_U, 2, F_U, by decide, e_U⟩, (List.forall_mem_cons.2 ⟨⟨f_v, 2, F_v, by decide, e_v⟩, (List.forall_mem_cons.2 ⟨⟨f_H, 1, F_H, by decide, e_H⟩, (List.forall_mem_cons.2 ⟨⟨f_g, 5, F_g, by decide, e_g⟩, (List.forall_mem_cons.2 ⟨⟨f_G, 4, F_G, by decide, e_G⟩, (fun _ h => by cases h)⟩)⟩)⟩)⟩)⟩)⟩)⟩)⟩)⟩)⟩)⟩)⟩)⟩)⟩)⟩)⟩)⟩)⟩)⟩)⟩)⟩)⟩)⟩)⟩)⟩)⟩)⟩)⟩)⟩)⟩)⟩)⟩)⟩)⟩)⟩)
theorem okR : ∀ p ∈ tabR, (fun X l args sl h => z0 X p.1 l args sl h) = p.2 :=
  (List.forall_mem_cons.2 ⟨e_e_10, (List.forall_mem_cons.2 ⟨e_u_1, (List.forall_mem_cons.2 ⟨e_p_1, (List.forall_mem_cons.2 ⟨e_t_3, (List.forall_mem_cons.2 ⟨e_f_1, (List.forall_mem_cons.2 ⟨e_g_1, (List.forall_mem_cons.2 ⟨e_G_0, (fun _ h => by cases h)⟩)⟩)⟩)⟩)⟩)⟩)⟩)
theorem tabs : TabOk (zbe tabF) (lookR (tabR.map (·.1))) (tabOf tabT) (zgD tabR) := tabOk (by kernel_rfl) (by decide) okT okR
theorem run : isT (callN (tabOf tabT) (zgD tabR) 100000 200 (.func (.func n_F) #[] #[]) [] H.empty) = true := by kernel_rfl
end Go.Ideal.X
end
noncomputable section
namespace Go.Ideal.X
open Go Go.Ideal Go.Ideal.J
theorem C_S : ze Go.Proofs.Try.prog Go.Proofs.Try.f11 = some (zu f_S) := by kernel_rfl
theorem C_o : ze Go.Proofs.Try.prog Go.Proofs.Try.f13 = some (zu f_o) := by kernel_rfl
theorem C_r : ze Go.Proofs.Try.prog Go.Proofs.Try.f15 = some (zu f_r) := by kernel_rfl
theorem C_F : ze Go.Proofs.Try.prog Go.Proofs.Try.f16 = some (zu f_F) := by kernel_rfl
theorem C_R : ze Go.Proofs.Try.prog Go.Proofs.Try.f17 = some (zu f_R) := by kernel_rfl
theorem C_n : ze Go.Proofs.Try.prog Go.Proofs.Try.f19 = some (zu f_n) := by kernel_rfl
theorem C_L : ze Go.Proofs.Try.prog Go.Proofs.Try.f20 = some (zu f_L) := by kernel_rfl
theorem C_Q : ze Go.Proofs.Try.prog Go.Proofs.Try.f26 = some (zu f_Q) := by kernel_rfl
theorem C_s : ze Go.Proofs.Try.prog Go.Proofs.Try.f30 = some (zu f_s) := by kernel_rfl
theorem C_e : ze Go.Proofs.Try.prog Go.Proofs.Try.f31 = some (zu f_e) := by kernel_rfl
theorem C_J : ze Go.Proofs.Try.prog Go.Proofs.Try.f33 = some (zu f_J) := by kernel_rfl
theorem C_w : ze Go.Proofs.Try.prog Go.Proofs.Try.f35 = some (zu f_w) := by kernel_rfl
theorem C_h : ze Go.Proofs.Try.prog Go.Proofs.Try.f36 = some (zu f_h) := by kernel_rfl
theorem C_P : ze Go.Proofs.Try.prog Go.Proofs.Try.f37 = some (zu f_P) := by kernel_rfl
theorem C_d : ze Go.Proofs.Try.prog Go.Proofs.Try.f38 = some (zu f_d) := by kernel_rfl
theorem C_u : ze Go.Proofs.Try.prog Go.Proofs.Try.f39 = some (zu f_u) := by kernel_rfl
theorem C_p : ze Go.Proofs.Try.prog Go.Proofs.Try.f40 = some (zu f_p) := by kernel_rfl
theorem C_N : ze Go.Proofs.Try.prog Go.Proofs.Try.f44 = some (zu f_N) := by kernel_rfl
theorem C_y : ze Go.Proofs.Try.prog Go.Proofs.Try.f45 = some (zu f_y) := by kernel_rfl
theorem C_m : ze Go.Proofs.Try.prog Go.Proofs.Try.f52 = some (zu f_m) := by kernel_rfl
theorem C_D : ze Go.Proofs.Try.prog Go.Proofs.Try.f54 = some (zu f_D) := by kernel_rfl
theorem C_I : ze Go.Proofs.Try.prog Go.Proofs.Try.f55 = some (zu f_I) := by kernel_rfl
theorem C_E : ze Go.Proofs.Try.prog Go.Proofs.Try.f57 = some (zu f_E) := by kernel_rfl
theorem C_t : ze Go.Proofs.Try.prog Go.Proofs.Try.f62 = some (zu f_t) := by kernel_rfl
theorem C_x : ze Go.Proofs.Try.prog Go.Proofs.Try.f63 = some (zu f_x) := by kernel_rfl
theorem C_f : ze Go.Proofs.Try.prog Go.Proofs.Try.f64 = some (zu f_f) := by kernel_rfl
theorem C_B : ze Go.Proofs.Try.prog Go.Proofs.Try.f65 = some (zu f_B) := by kernel_rfl
theorem C_l : ze Go.Proofs.Try.prog Go.Proofs.Try.f68 = some (zu f_l) := by kernel_rfl
theorem C_C : ze Go.Proofs.Try.prog Go.Proofs.Try.f69 = some (zu f_C) := by kernel_rfl
theorem C_b : ze Go.Proofs.Try.prog Go.Proofs.Try.f70 = some (zu f_b) := by kernel_rfl
theorem C_U : ze Go.Proofs.Try.prog Go.Proofs.Try.f71 = some (zu f_U) := by kernel_rfl
theorem C_v : ze Go.Proofs.Try.prog Go.Proofs.Try.f72 = some (zu f_v) := by kernel_rfl
theorem C_H : ze Go.Proofs.Try.prog Go.Proofs.Try.f75 = some (zu f_H) := by kernel_rfl
theorem C_g : ze Go.Proofs.Try.prog Go.Proofs.Try.f80 = some (zu f_g) := by kernel_rfl
theorem C_G : ze Go.Proofs.Try.prog Go.Proofs.Try.f81 = some (zu f_G) := by kernel_rfl
theorem okF : ∀ p ∈ tabF, FnOk Go.Proofs.Try.prog p.1 p.2 :=
  (List.forall_mem_cons.2 ⟨(.inl ⟨Go.Proofs.Try.f11, Go.Proofs.Try.func11, C_S⟩), (List.forall_mem_cons.2 ⟨(.inl ⟨Go.Proofs.Try.f13, Go.Proofs.Try.func13, C_o⟩), (List.forall_mem_cons.2 ⟨(.inl ⟨Go.Proofs.Try.f15, Go.Proofs.Try.func15, C_r⟩), (List.forall_mem_cons.2 ⟨(.inl ⟨Go.Proofs.Try.f16, Go.Proofs.Try.func16, C_F⟩), (List.forall_mem_cons.2 ⟨(.inl ⟨Go.Proofs.Try.f17, Go.Proofs.Try.func17, C_R⟩), (List.forall_mem_cons.2 ⟨(.inl ⟨Go.Proofs.Try.f19, Go.Proofs.Try.func19, C_n⟩), (List.forall_mem_cons.2 ⟨(.inl ⟨Go.Proofs.Try.f20, Go.Proofs.Try.func20, C_L⟩), (List.forall_mem_cons.2 ⟨(.inl ⟨Go.Proofs.Try.f26, Go.Proofs.Try.func26, C_Q⟩), (List.forall_mem_cons.2 ⟨(.inl ⟨Go.Proofs.Try.f30, Go.Proofs.Try.func30, C_s⟩), (List.forall_mem_cons.2 ⟨(.inl ⟨Go.Proofs.Try.f31, Go.Proofs.Try.func31, C_e⟩), (List.forall_mem_cons.2 ⟨(.inl ⟨Go.Proofs.Try.f33, Go.Proofs.Try.func33, C_J⟩), (List.forall_mem_cons.2 ⟨(.inl ⟨Go.Proofs.Try.f35, Go.Proofs.Try.func35, C_w⟩), (List.forall_mem_cons.2 ⟨(.inl ⟨Go.Proofs.Try.f36, Go.Proofs.Try.func36, C_h⟩), (List.forall_mem_cons.2 ⟨(.inl ⟨Go.Proofs.Try.f37, Go.Proofs.Try.func37, C_P⟩), (List.forall_mem_cons.2 ⟨(.inl ⟨Go.Proofs.Try.f38, Go.Proofs.Try.func38, C_d⟩), (List.forall_mem_cons.2 ⟨(.inl ⟨Go.Proofs.Try.f39, Go.Proofs.Try.func39, C_u⟩), (List.forall_mem_cons.2 ⟨(.inl ⟨Go.Proofs.Try.f40, Go.Proofs.Try.func40, C_p⟩), (List.forall_mem_cons.2 ⟨(.inl ⟨Go.Proofs.Try.f44, Go.Proofs.Try.func44, C_N⟩), (List.forall_mem_cons.2 ⟨(.inl ⟨Go.Proofs.Try.f45, Go.Proofs.Try.func45, C_y⟩), (List.forall_mem_cons.2 ⟨(.inl ⟨Go.Proofs.Try.f52, Go.Proofs.Try.func52, C_m⟩), (List.forall_mem_cons.2 ⟨(.inl ⟨Go.Proofs.Try.f54, Go.Proofs.Try.func54, C_D⟩), (List.forall_mem_cons.2 ⟨(.inl ⟨Go.Proofs.Try.f55, Go.Proofs.Try.func55, C_I⟩), (List.forall_mem_cons.2 ⟨(.inl ⟨Go.Proofs.Try.f57, Go.Proofs.Try.func57, C_E⟩), (List.forall_mem_cons.2 ⟨(.inl ⟨Go.Proofs.Try.f62, Go.Proofs.Try.func62, C_t⟩), (List.forall_mem_cons.2 ⟨(.inl ⟨Go.Proofs.Try.f63, Go.Proofs.Try.func63, C_x⟩), (List.forall_mem_cons.2 ⟨(.inl ⟨Go.Proofs.Try.f64, Go.Proofs.Try.func64, C_f⟩), (List.forall_mem_cons.2 ⟨(.inl ⟨Go.Proofs.Try.f65, Go.Proofs.Try.func65, C_B⟩), (List.forall_mem_cons.2 ⟨(.inl ⟨Go.Proofs.Try.f68, Go.Proofs.Try.func68, C_l⟩), (List.forall_mem_cons.2 ⟨(.inl ⟨Go.Proofs.Try.f69, Go.Proofs.Try.func69, C_C⟩), (List.forall_mem_cons.2 ⟨(.inl ⟨Go.Proofs.Try.f70, Go.Proofs.Try.func70, C_b⟩), (List.forall_mem_cons.2 ⟨(.inl ⟨Go.Proofs.Try.f71, Go.Proofs.Try.func71, C_U⟩), (List.forall_mem_cons.2 ⟨(.inl ⟨Go.Proofs.Try.f72, Go.Proofs.Try.func72, C_v⟩), (List.forall_mem_cons.2 ⟨(.inl ⟨Go.Proofs.Try.f75, Go.Proofs.Try.func75, C_H⟩), (List.forall_mem_cons.2 ⟨(.inl ⟨Go.Proofs.Try.f80, Go.Proofs.Try.func80, C_g⟩), (List.forall_mem_cons.2 ⟨(.inl ⟨Go.Proofs.Try.f81, Go.Proofs.Try.func81, C_G⟩), (fun _ h => by cases h)⟩)⟩)⟩)⟩)⟩)⟩)⟩)⟩)⟩)⟩)⟩)⟩)⟩)⟩)⟩)⟩)⟩)⟩)⟩)⟩)⟩)⟩)⟩)⟩)⟩)⟩)⟩)⟩)⟩)⟩)⟩)⟩)⟩)⟩)⟩)
theorem hmix : Go.Proofs.Try.prog.follows .mixedOrders = true := by kernel_rfl
theorem okFs : ∀ g cf, zbe tabF g = some cf → FnOk Go.Proofs.Try.prog g cf := fun g cf h => by obtain ⟨p, hp, rfl, rfl⟩ := zfG h; exact okF p hp
theorem knownOk : FnOk Go.Proofs.Try.prog n_F (zhD true) := by
  obtain ⟨k, h', he⟩ := E_of_isT tabs run
  exact prim_of hmix okFs Go.Proofs.Try.func16 C_F he
end Go.Ideal.X
end
noncomputable section
namespace Go.Ideal.J
open Go Go.Ideal
theorem C_M : ze Go.Proofs.Try.prog Go.Proofs.Try.f6 = some (zu f_M) := by kernel_rfl
theorem C_o : ze Go.Proofs.Try.prog Go.Proofs.Try.f13 = some (zu f_o) := Go.Ideal.X.C_o
theorem C_k : ze Go.Proofs.Try.prog Go.Proofs.Try.f14 = some (zu f_k) := by kernel_rfl
theorem C_L : ze Go.Proofs.Try.prog Go.Proofs.Try.f20 = some (zu f_L) := Go.Ideal.X.C_L
theorem C_K : ze Go.Proofs.Try.prog Go.Proofs.Try.f21 = some (zu f_K) := by kernel_rfl
theorem C_a : ze Go.Proofs.Try.prog Go.Proofs.Try.f23 = some (zu f_a) := by kernel_rfl
theorem C_J : ze Go.Proofs.Try.prog Go.Proofs.Try.f33 = some (zu f_J) := Go.Ideal.X.C_J
theorem C_O : ze Go.Proofs.Try.prog Go.Proofs.Try.f34 = some (zu f_O) := by kernel_rfl
theorem C_h : ze Go.Proofs.Try.prog Go.Proofs.Try.f36 = some (zu f_h) := Go.Ideal.X.C_h
theorem C_d : ze Go.Proofs.Try.prog Go.Proofs.Try.f38 = some (zu f_d) := Go.Ideal.X.C_d
theorem C_c : ze Go.Proofs.Try.prog Go.Proofs.Try.f41 = some (zu f_c) := by kernel_rfl
theorem C_q : ze Go.Proofs.Try.prog Go.Proofs.Try.f42 = some (zu f_q) := by kernel_rfl
theorem C_N : ze Go.Proofs.Try.prog Go.Proofs.Try.f44 = some (zu f_N) := Go.Ideal.X.C_N
theorem C_y : ze Go.Proofs.Try.prog Go.Proofs.Try.f45 = some (zu f_y) := Go.Ideal.X.C_y
theorem C_j : ze Go.Proofs.Try.prog Go.Proofs.Try.f46 = some (zu f_j) := by kernel_rfl
theorem C_A : ze Go.Proofs.Try.prog Go.Proofs.Try.f47 = some (zu f_A) := by kernel_rfl
theorem C_D : ze Go.Proofs.Try.prog Go.Proofs.Try.f54 = some (zu f_D) := Go.Ideal.X.C_D
theorem C_E : ze Go.Proofs.Try.prog Go.Proofs.Try.f57 = some (zu f_E) := Go.Ideal.X.C_E
theorem C_x : ze Go.Proofs.Try.prog Go.Proofs.Try.f63 = some (zu f_x) := Go.Ideal.X.C_x
theorem C_f : ze Go.Proofs.Try.prog Go.Proofs.Try.f64 = some (zu f_f) := Go.Ideal.X.C_f
theorem C_B : ze Go.Proofs.Try.prog Go.Proofs.Try.f65 = some (zu f_B) := Go.Ideal.X.C_B
theorem C_z : ze Go.Proofs.Try.prog Go.Proofs.Try.f66 = some (zu f_z) := by kernel_rfl
theorem C_i : ze Go.Proofs.Try.prog Go.Proofs.Try.f67 = some (zu f_i) := by kernel_rfl
theorem C_l : ze Go.Proofs.Try.prog Go.Proofs.Try.f68 = some (zu f_l) := Go.Ideal.X.C_l
theorem C_C : ze Go.Proofs.Try.prog Go.Proofs.Try.f69 = some (zu f_C) := Go.Ideal.X.C_C
theorem C_b : ze Go.Proofs.Try.prog Go.Proofs.Try.f70 = some (zu f_b) := Go.Ideal.X.C_b
theorem C_U : ze Go.Proofs.Try.prog Go.Proofs.Try.f71 = some (zu f_U) := Go.Ideal.X.C_U
theorem C_H : ze Go.Proofs.Try.prog Go.Proofs.Try.f75 = some (zu f_H) := Go.Ideal.X.C_H
theorem C_g : ze Go.Proofs.Try.prog Go.Proofs.Try.f80 = some (zu f_g) := Go.Ideal.X.C_g
theorem C_G : ze Go.Proofs.Try.prog Go.Proofs.Try.f81 = some (zu f_G) := Go.Ideal.X.C_G
theorem okF (hk : FnOk Go.Proofs.Try.prog n_F (zhD true)) : ∀ p ∈ tabF, FnOk Go.Proofs.Try.prog p.1 p.2 :=
  (List.forall_mem_cons.2 ⟨(.inl ⟨Go.Proofs.Try.f6, Go.Proofs.Try.func6, C_M⟩), (List.forall_mem_cons.2 ⟨(.inl ⟨Go.Proofs.Try.f13, Go.Proofs.Try.func13, C_o⟩), (List.forall_mem_cons.2 ⟨(.inl ⟨Go.Proofs.Try.f14, Go.Proofs.Try.func14, C_k⟩), (List.forall_mem_cons.2 ⟨(.inl ⟨Go.Proofs.Try.f20, Go.Proofs.Try.func20, C_L⟩), (List.forall_mem_cons.2 ⟨(.inl ⟨Go.Proofs.Try.f21, Go.Proofs.Try.func21, C_K⟩), (List.forall_mem_cons.2 ⟨(.inl ⟨Go.Proofs.Try.f23, Go.Proofs.Try.func23, C_a⟩), (List.forall_mem_cons.2 ⟨(.inl ⟨Go.Proofs.Try.f33, Go.Proofs.Try.func33, C_J⟩), (List.forall_mem_cons.2 ⟨(.inl ⟨Go.Proofs.Try.f34, Go.Proofs.Try.func34, C_O⟩), (List.forall_mem_cons.2 ⟨(.inl ⟨Go.Proofs.Try.f36, Go.Proofs.Try.func36, C_h⟩), (List.forall_mem_cons.2 ⟨(.inl ⟨Go.Proofs.Try.f38, Go.Proofs.Try.func38, C_d⟩), (List.forall_mem_cons.2 ⟨(.inl ⟨Go.Proofs.Try.f41, Go.Proofs.Try.func41, C_c⟩), (List.forall_mem_cons.2 ⟨(.inl ⟨Go.Proofs.Try.f42, Go.Proofs.Try.func42, C_q⟩), (List.forall_mem_cons.2 ⟨(.inl ⟨Go.Proofs.Try.f44, Go.Proofs.Try.func44, C_N⟩), (List.forall_mem_cons.2 ⟨(.inl ⟨Go.Proofs.Try.f45, Go.Proofs.Try.func45, C_y⟩), (List.forall_mem_cons.2 ⟨(.inl ⟨Go.Proofs.Try.f46, Go.Proofs.Try.func46, C_j⟩), (List.forall_mem_cons.2 ⟨(.inl ⟨Go.Proofs.Try.f47, Go.Proofs.Try.func47, C_A⟩), (List.forall_mem_cons.2 ⟨(.inl ⟨Go.Proofs.Try.f54, Go.Proofs.Try.func54, C_D⟩), (List.forall_mem_cons.2 ⟨(.inl ⟨Go.Proofs.Try.f57, Go.Proofs.Try.func57, C_E⟩), (List.forall_mem_cons.2 ⟨(.inl ⟨Go.Proofs.Try.f63, Go.Proofs.Try.func63, C_x⟩), (List.forall_mem_cons.2 ⟨(.inl ⟨Go.Proofs.Try.f64, Go.Proofs.Try.func64, C_f⟩), (List.forall_mem_cons.2 ⟨(.inl ⟨Go.Proofs.Try.f65, Go.Proofs.Try.func65, C_B⟩), (List.forall_mem_cons.2 ⟨(.inl ⟨Go.Proofs.Try.f66, Go.Proofs.Try.func66, C_z⟩), (List.forall_mem_cons.2 ⟨(.inl ⟨Go.Proofs.Try.f67, Go.Proofs.Try.func67, C_i⟩), (List.forall_mem_cons.2 ⟨(.inl ⟨Go.Proofs.Try.f68, Go.Proofs.Try.func68, C_l⟩), (List.forall_mem_cons.2 ⟨(.inl ⟨Go.Proofs.Try.f69, Go.Proofs.Try.func69, C_C⟩), (List.forall_mem_cons.2 ⟨(.inl ⟨Go.Proofs.Try.f70, Go.Proofs.Try.func70, C_b⟩), (List.forall_mem_cons.2 ⟨(.inl ⟨Go.Proofs.Try.f71, Go.Proofs.Try.func71, C_U⟩), (List.forall_mem_cons.2 ⟨(.inl ⟨Go.Proofs.Try.f75, Go.Proofs.Try.func75, C_H⟩), (List.forall_mem_cons.2 ⟨(.inl ⟨Go.Proofs.Try.f80, Go.Proofs.Try.func80, C_g⟩), (List.forall_mem_cons.2 ⟨(.inl ⟨Go.Proofs.Try.f81, Go.Proofs.Try.func81, C_G⟩), (List.forall_mem_cons.2 ⟨(hk), (fun _ h => by cases h)⟩)⟩)⟩)⟩)⟩)⟩)⟩)⟩)⟩)⟩)⟩)⟩)⟩)⟩)⟩)⟩)⟩)⟩)⟩)⟩)⟩)⟩)⟩)⟩)⟩)⟩)⟩)⟩)⟩)⟩)⟩)
theorem okFs : ∀ g cf, F g = some cf → FnOk Go.Proofs.Try.prog g cf := fun g cf h => by obtain ⟨p, hp, rfl, rfl⟩ := zfG h; exact okF Go.Ideal.X.knownOk p hp
end Go.Ideal.J
end
