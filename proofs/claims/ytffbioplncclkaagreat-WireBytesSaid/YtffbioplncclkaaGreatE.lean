/- A part of the proof: the ideal machine, and what the functions of the program answer over it. -/
import Derived.RowKit
import Derived.OpenShut
import Derived.WideKeyArgs
import Derived.ChangeSame
import Derived.Test.YtffbioplncclkaaGreatD
set_option linter.unusedSimpArgs false
set_option linter.unusedVariables false
set_option linter.unusedSectionVars false
set_option maxRecDepth 100000
namespace Go.Ideal.Q
abbrev n_F:Nat:=3
abbrev n_l:Nat:=9
abbrev n_bx:Nat:=10
abbrev n_bg:Nat:=11
abbrev n_U:Nat:=12
abbrev n_Y:Nat:=13
abbrev n_J:Nat:=14
abbrev n_i:Nat:=15
abbrev n_bf:Nat:=16
abbrev n_v:Nat:=26
abbrev n_x:Nat:=37
abbrev n_n:Nat:=38
abbrev n_d:Nat:=39
abbrev n_a:Nat:=40
abbrev n_4:Nat:=41
abbrev n_bC:Nat:=42
abbrev n_X:Nat:=43
abbrev n_c:Nat:=44
abbrev n_q:Nat:=45
abbrev n_b:Nat:=46
abbrev n_y:Nat:=47
abbrev n_t:Nat:=48
abbrev n_0:Nat:=54
abbrev n_z:Nat:=55
abbrev n_H:Nat:=56
abbrev n_C:Nat:=57
abbrev n_g:Nat:=58
abbrev n_bj:Nat:=60
abbrev n_bo:Nat:=63
abbrev n_be:Nat:=64
abbrev n_K:Nat:=67
abbrev n_bm:Nat:=76
abbrev n_2:Nat:=79
abbrev n_5:Nat:=84
abbrev n_bl:Nat:=85
abbrev n_bA:Nat:=86
abbrev n_p:Nat:=87
abbrev n_bB:Nat:=88
abbrev n_bz:Nat:=89
abbrev n_bd:Nat:=90
abbrev n_bn:Nat:=91
abbrev n_bt:Nat:=92
abbrev n_8:Nat:=93
abbrev n_bp:Nat:=94
abbrev n_6:Nat:=95
abbrev n_7:Nat:=96
abbrev n_bq:Nat:=97
abbrev n_3:Nat:=98
abbrev n_bi:Nat:=99
abbrev n_bh:Nat:=100
abbrev n_I:Nat:=101
abbrev n_bk:Nat:=102
abbrev n_1:Nat:=103
abbrev n_T:Nat:=104
abbrev n_G:Nat:=105
abbrev n_Q:Nat:=106
abbrev n_P:Nat:=107
abbrev n_o:Nat:=108
abbrev n_bc:Nat:=109
abbrev n_9:Nat:=110
abbrev n_m:Nat:=111
abbrev n_r:Nat:=112
abbrev n_bv:Nat:=113
abbrev n_W:Nat:=114
abbrev n_V:Nat:=115
abbrev n_u:Nat:=116
abbrev n_w:Nat:=117
abbrev n_e:Nat:=118
abbrev n_ba:Nat:=119
abbrev n_bb:Nat:=120
abbrev n_O:Nat:=121
abbrev n_S:Nat:=122
abbrev n_E:Nat:=140
abbrev n_Z:Nat:=151
abbrev n_by:Nat:=152
abbrev n_M:Nat:=153
abbrev n_bu:Nat:=154
abbrev n_L:Nat:=155
abbrev n_bw:Nat:=156
abbrev n_A:Nat:=157
abbrev n_br:Nat:=158
abbrev n_D:Nat:=159
abbrev n_bs:Nat:=160
abbrev n_R:Nat:=161
abbrev n_s:Nat:=172
abbrev n_j:Nat:=173
abbrev n_k:Nat:=174
abbrev n_f:Nat:=175
abbrev n_h:Nat:=176
def r_F_1:List CI:=[bx 2 (t 0),mv 4 ff]
def r_F_2:List CI:=[ln 13 3 2,ca 14 n_l [(t 13)],mv 15 (t 14),gu 15 false (mv 16 (t 1)),gu 15 false (oo 17 (.blt .lenStr [(t 16)])),gu 15 false (bi .gtr 18 (t 17) (i 90000)),pk 19 (t 15) tt (t 18)]
def r_F_3:List CI:=[ca 20 n_bx [],mv 4 (t 20)]
def r_F_4:List CI:=[ln 22 3 2,ca 23 n_bg [(t 22)],mv 21 (t 23),ex 24 21 0,ex 25 21 1,mv 5 (t 24),mv 6 (t 25)]
def r_F_5:List CI:=[ln 27 3 2,ca 28 n_U [(t 27)],mv 26 (t 28),ex 29 26 0,ex 30 26 1,mv 7 (t 29),mv 8 (t 30)]
def r_F_6:List CI:=[mv 32 (t 1),ca 33 n_Y [(t 32)],mv 31 (t 33),ex 34 31 0,ex 35 31 1,oo 9 (.alloc [(.slice none 0 0),(.slice none 0 0),(.slice none 0 0)]),st 3 9 (t 34),mv 10 (t 35)]
def r_F_7:List CI:=[mv 37 (t 1),ca 38 n_J [(t 37)],mv 36 (t 38),ex 39 36 0,ex 40 36 1,oo 11 (.alloc [(.slice none 0 0),(.slice none 0 0),(.slice none 0 0)]),st 3 11 (t 39),mv 12 (t 40)]
def r_F_8:List CI:=[mv 41 (t 5),mv 42 (t 7),bi .eql 43 (t 41) (t 42),mv 44 (t 43),gu 44 true (mv 45 (t 6)),gu 44 true (mv 46 (t 8)),gu 44 true (bi .eql 47 (t 45) (t 46)),pk 48 (t 44) (t 47) ff,mv 49 (t 48),gu 49 true (ln 50 3 9),gu 49 true (ln 51 3 11),gu 49 true (ca 52 n_i [(t 50),(t 51)]),pk 53 (t 49) (t 52) ff,mv 54 (t 53),gu 54 true (mv 55 (t 10)),gu 54 true (mv 56 (t 12)),gu 54 true (bi .eql 57 (t 55) (t 56)),pk 58 (t 54) (t 57) ff,mv 59 (t 58),gu 59 true (ca 60 n_bx []),pk 61 (t 59) (t 60) ff,mv 4 (t 61)]
def c_F:CC:=(.seq (.ops r_F_1) (bs [1,2]) (.seq (.seq (.ops r_F_2) (bs [1,2,19]) (.cond (t 19) (.seq (.ops r_F_3) (bs [4]) .ret) .skip)) (bs [1,2]) (.seq (.ops r_F_4) (bs [1,2,5,6]) (.seq (.ops r_F_5) (bs [1,5,6,7,8]) (.seq (.ops r_F_6) (bs [1,5,6,7,8,9,10]) (.seq (.ops r_F_7) (bs [5,6,7,8,9,10,11,12]) (.seq (.ops r_F_8) (bs [4]) .ret)))))))
def f_F:ze:=⟨62,[.tmp (bits 4)],c_F,none,none⟩
def r_l_1:List CI:=[bx 1 (t 0),mv 2 ff]
def r_l_2:List CI:=[fa 6 0 1,l 7 6,le 8 (t 7),bi .gtr 9 (t 8) (i 70),mv 10 (t 9),gu 10 false (fa 11 1 1),gu 10 false (l 12 11),gu 10 false (le 13 (t 12)),gu 10 false (bi .gtr 14 (t 13) (i 70)),pk 15 (t 10) tt (t 14),mv 16 (t 15),gu 16 false (fa 17 2 1),gu 16 false (l 18 17),gu 16 false (le 19 (t 18)),gu 16 false (bi .gtr 20 (t 19) (i 70)),pk 21 (t 16) tt (t 20)]
def r_l_3:List CI:=[mv 2 tt]
def r_l_4:List CI:=[mv 3 (i 0)]
def r_l_5:List CI:=[mv 22 (t 3),fa 23 1 1,l 24 23,le 25 (t 24),bi .lss 26 (t 22) (t 25)]
def r_l_6:List CI:=[fa 29 1 1,l 30 29,mv 31 (t 3),ia 32 2 30 (t 31),fa 33 1 32,l 34 33,le 35 (t 34),bi .gtr 36 (t 35) (i 20)]
def r_l_7:List CI:=[mv 2 tt]
def r_l_8:List CI:=[mv 4 (i 0)]
def r_l_9:List CI:=[mv 37 (t 4),fa 38 1 1,l 39 38,mv 40 (t 3),ia 41 2 39 (t 40),fa 42 1 41,l 43 42,le 44 (t 43),bi .lss 45 (t 37) (t 44)]
def r_l_10:List CI:=[fa 48 1 1,l 49 48,mv 50 (t 3),ia 51 2 49 (t 50),fa 52 1 51,l 53 52,mv 54 (t 4),ia 55 1 53 (t 54),fa 56 0 55,l 57 56,ca 58 n_bf [(t 57)]]
def r_l_11:List CI:=[mv 2 tt]
def r_l_12:List CI:=[mv 46 (t 4),bi .add 47 (t 46) (i 1),mv 4 (t 47)]
def c_l_13:CC:=(.seq (.seq (.ops r_l_9) (bs [1,3,4,45]) (.cond (t 45) .skip (.exit 4))) (bs [1,3,4]) (.seq (.block 6 (.seq (.ops r_l_10) (bs [1,3,4,58]) (.cond (t 58) (.seq (.ops r_l_11) (bs [2]) .ret) .skip))) (bs [1,3,4]) (.ops r_l_12)))
def r_l_14:List CI:=[mv 27 (t 3),bi .add 28 (t 27) (i 1),mv 3 (t 28)]
def c_l_15:CC:=(.seq (.seq (.ops r_l_5) (bs [1,3,26]) (.cond (t 26) .skip (.exit 0))) (bs [1,3]) (.seq (.block 2 (.seq (.seq (.ops r_l_6) (bs [1,3,36]) (.cond (t 36) (.seq (.ops r_l_7) (bs [2]) .ret) .skip)) (bs [1,3]) (.seq (.ops r_l_8) (bs [1,3,4]) (.block 4 (.loop (bs [1,3,4]) c_l_13))))) (bs [1,3]) (.ops r_l_14)))
def r_l_16:List CI:=[mv 5 (i 0)]
def r_l_17:List CI:=[mv 59 (t 5),fa 60 2 1,l 61 60,le 62 (t 61),bi .lss 63 (t 59) (t 62)]
def r_l_18:List CI:=[fa 66 2 1,l 67 66,mv 68 (t 5),ia 69 4 67 (t 68),fa 70 1 69,fa 71 2 70,l 72 71,ca 73 n_bf [(t 72)]]
def r_l_19:List CI:=[mv 2 tt]
def r_l_20:List CI:=[mv 64 (t 5),bi .add 65 (t 64) (i 1),mv 5 (t 65)]
def c_l_21:CC:=(.seq (.seq (.ops r_l_17) (bs [1,5,63]) (.cond (t 63) .skip (.exit 8))) (bs [1,5]) (.seq (.block 10 (.seq (.ops r_l_18) (bs [1,5,73]) (.cond (t 73) (.seq (.ops r_l_19) (bs [2]) .ret) .skip))) (bs [1,5]) (.ops r_l_20)))
def r_l_22:List CI:=[mv 2 ff]
def c_l:CC:=(.seq (.ops r_l_1) (bs [1]) (.seq (.seq (.ops r_l_2) (bs [1,21]) (.cond (t 21) (.seq (.ops r_l_3) (bs [2]) .ret) .skip)) (bs [1]) (.seq (.seq (.ops r_l_4) (bs [1,3]) (.block 0 (.loop (bs [1,3]) c_l_15))) (bs [1]) (.seq (.seq (.ops r_l_16) (bs [1,5]) (.block 8 (.loop (bs [1,5]) c_l_21))) [] (.seq (.ops r_l_22) (bs [2]) .ret)))))
def f_l:ze:=⟨74,[.tmp (bits 2)],c_l,none,none⟩
def r_bg_1:List CI:=[bx 1 (t 0),mv 2 (.c (.string ⟨#[]⟩)),mv 3 (i 0)]
def r_bg_2:List CI:=[ln 5 3 1,ca 6 n_x [(t 5)],no 7 6]
def r_bg_3:List CI:=[mv 2 (.c (.string ⟨#[]⟩)),mv 3 (i 2)]
def r_bg_4:List CI:=[ln 8 3 1,ca 9 n_n [(t 8)],mv 4 (t 9)]
def r_bg_5:List CI:=[mv 10 (t 4),oo 11 (.blt .lenStr [(t 10)]),bi .gtr 12 (t 11) (i 80000)]
def r_bg_6:List CI:=[mv 2 (.c (.string ⟨#[]⟩)),mv 3 (i 3)]
def r_bg_7:List CI:=[mv 13 (t 4),mv 2 (t 13),mv 3 (i 0)]
def c_bg:CC:=(.seq (.ops r_bg_1) (bs [1]) (.seq (.seq (.ops r_bg_2) (bs [1,7]) (.cond (t 7) (.seq (.ops r_bg_3) (bs [2,3]) .ret) .skip)) (bs [1]) (.seq (.ops r_bg_4) (bs [4]) (.seq (.seq (.ops r_bg_5) (bs [4,12]) (.cond (t 12) (.seq (.ops r_bg_6) (bs [2,3]) .ret) .skip)) (bs [4]) (.seq (.ops r_bg_7) (bs [2,3]) .ret)))))
def f_bg:ze:=⟨14,[.tmp (bits 2),.tmp (bits 3)],c_bg,none,none⟩
def r_U_1:List CI:=[bx 1 (t 0),mv 2 (.c (.string ⟨#[]⟩)),mv 3 (i 0)]
def r_U_2:List CI:=[ln 5 3 1,ca 6 n_d [(t 5)],no 7 6]
def r_U_3:List CI:=[mv 2 (.c (.string ⟨#[]⟩)),mv 3 (i 2)]
def r_U_4:List CI:=[ln 8 3 1,ca 9 n_a [(t 8)],mv 4 (t 9)]
def r_U_5:List CI:=[mv 10 (t 4),oo 11 (.blt .lenStr [(t 10)]),bi .gtr 12 (t 11) (i 80000)]
def r_U_6:List CI:=[mv 2 (.c (.string ⟨#[]⟩)),mv 3 (i 3)]
def r_U_7:List CI:=[mv 13 (t 4),mv 2 (t 13),mv 3 (i 0)]
def c_U:CC:=(.seq (.ops r_U_1) (bs [1]) (.seq (.seq (.ops r_U_2) (bs [1,7]) (.cond (t 7) (.seq (.ops r_U_3) (bs [2,3]) .ret) .skip)) (bs [1]) (.seq (.ops r_U_4) (bs [4]) (.seq (.seq (.ops r_U_5) (bs [4,12]) (.cond (t 12) (.seq (.ops r_U_6) (bs [2,3]) .ret) .skip)) (bs [4]) (.seq (.ops r_U_7) (bs [2,3]) .ret)))))
def f_U:ze:=⟨14,[.tmp (bits 2),.tmp (bits 3)],c_U,none,none⟩
def r_bC:List CI:=[bx 1 (t 0),oo 2 (.alloc [(.slice none 0 0),(.slice none 0 0),(.slice none 0 0)]),mv 3 (i 0)]
def r_Y_2:List CI:=[l 5 1,oo 6 (.blt .lenStr [(t 5)]),bi .gtr 7 (t 6) (i 80000)]
def r_Y_3:List CI:=[oo 8 (.build [(.slice none 0 0),(.slice none 0 0),(.slice none 0 0)] []),st 3 2 (t 8),mv 3 (i 3)]
def r_Y_4:List CI:=[oo 4 (.alloc [(.slice none 0 0),(.slice none 0 0),(.slice none 0 0)])]
def r_Y_5:List CI:=[oo 9 (.makeFunc (.func n_bC) [] [(t 1),(t 4)]),ca 10 n_4 [(t 9)],lo 1 (no 11 10),lo 1 (mv 12 (t 11)),lo 1 (gu 12 false (ln 13 3 4)),lo 1 (gu 12 false (ca 14 n_x [(t 13)])),lo 2 (gu 12 false (no 15 14)),lo 2 (pk 16 (t 12) tt (t 15)),lo 2 (mv 17 (t 16)),lo 2 (gu 17 false (ln 18 3 4)),lo 2 (gu 17 false (ca 19 n_n [(t 18)])),lo 2 (gu 17 false (l 20 1)),lo 3 (gu 17 false (bi .neq 21 (t 19) (t 20))),lo 3 (pk 22 (t 17) tt (t 21))]
def r_Y_6:List CI:=[oo 23 (.build [(.slice none 0 0),(.slice none 0 0),(.slice none 0 0)] []),st 3 2 (t 23),mv 3 (i 4)]
def r_Y_7:List CI:=[ln 24 3 4,st 3 2 (t 24),mv 3 (i 0)]
def c_Y:CC:=(.seq (.ops r_bC) (bs [1,2]) (.seq (.seq (.ops r_Y_2) (bs [1,2,7]) (.cond (t 7) (.seq (.ops r_Y_3) (bs [2,3]) .ret) .skip)) (bs [1,2]) (.seq (.ops r_Y_4) (bs [1,2,4]) (.seq (.seq (.draw r_Y_5) (bs [2,4,22]) (.cond (t 22) (.seq (.ops r_Y_6) (bs [2,3]) .ret) .skip)) (bs [2,4]) (.seq (.ops r_Y_7) (bs [2,3]) .ret)))))
def f_Y:ze:=⟨25,[.cell (some 3) (bits 2),.tmp (bits 3)],c_Y,none,none⟩
def r_J_1:List CI:=[oo 2 (.alloc [(.slice none 0 0),(.slice none 0 0),(.slice none 0 0)]),mv 3 (i 0)]
def r_J_2:List CI:=[mv 6 (t 0),oo 7 (.blt .lenStr [(t 6)]),bi .gtr 8 (t 7) (i 80000)]
def r_J_3:List CI:=[oo 9 (.build [(.slice none 0 0),(.slice none 0 0),(.slice none 0 0)] []),st 3 2 (t 9),mv 3 (i 3)]
def r_J_4:List CI:=[mv 10 (t 0),oo 11 (.blt .lenStr [(t 10)]),bi .lss 12 (t 11) (i 3),mv 13 (t 12),gu 13 false (mv 14 (t 0)),gu 13 false (oo 15 (.strIdx (t 14) (i 0))),gu 13 false (bi .neq 16 (t 15) (.c (.int .u8 80))),pk 17 (t 13) tt (t 16),mv 18 (t 17),gu 18 false (mv 19 (t 0)),gu 18 false (mv 20 (t 0)),gu 18 false (oo 21 (.blt .lenStr [(t 20)])),gu 18 false (bi .sub 22 (t 21) (i 2)),gu 18 false (oo 23 (.strSlice (t 19) none (some (t 22)))),gu 18 false (ca 24 n_q [(t 23)]),gu 18 false (mv 25 (t 0)),gu 18 false (mv 26 (t 0)),gu 18 false (oo 27 (.blt .lenStr [(t 26)])),gu 18 false (bi .sub 28 (t 27) (i 2)),gu 18 false (oo 29 (.strSlice (t 25) (some (t 28)) none)),lo 1 (gu 18 false (bi .neq 30 (t 24) (t 29))),lo 1 (pk 31 (t 18) tt (t 30))]
def r_J_5:List CI:=[oo 32 (.build [(.slice none 0 0),(.slice none 0 0),(.slice none 0 0)] []),st 3 2 (t 32),mv 3 (i 4)]
def r_J_6:List CI:=[mv 34 (t 0),mv 35 (t 0),oo 36 (.blt .lenStr [(t 35)]),bi .sub 37 (t 36) (i 2),oo 38 (.strSlice (t 34) none (some (t 37))),ca 39 n_b [(t 38)],mv 33 (t 39),ex 40 33 0,ex 41 33 1,oo 4 (.alloc [(.slice none 0 0),(.slice none 0 0),(.slice none 0 0)]),st 3 4 (t 40),mv 5 (t 41)]
def r_J_7:List CI:=[mv 42 (t 5),no 43 42,mv 44 (t 43),gu 44 false (ln 45 3 4),gu 44 false (ca 46 n_d [(t 45)]),gu 44 false (no 47 46),pk 48 (t 44) tt (t 47),mv 49 (t 48),gu 49 false (ln 50 3 4),gu 49 false (ca 51 n_a [(t 50)]),gu 49 false (mv 52 (t 0)),gu 49 false (bi .neq 53 (t 51) (t 52)),pk 54 (t 49) tt (t 53)]
def r_J_8:List CI:=[oo 55 (.build [(.slice none 0 0),(.slice none 0 0),(.slice none 0 0)] []),st 3 2 (t 55),mv 3 (i 4)]
def r_J_9:List CI:=[ln 56 3 4,st 3 2 (t 56),mv 3 (i 0)]
def c_J:CC:=(.seq (.ops r_J_1) (bs [0,2]) (.seq (.seq (.ops r_J_2) (bs [0,2,8]) (.cond (t 8) (.seq (.ops r_J_3) (bs [2,3]) .ret) .skip)) (bs [0,2]) (.seq (.seq (.draw r_J_4) (bs [0,2,31]) (.cond (t 31) (.seq (.ops r_J_5) (bs [2,3]) .ret) .skip)) (bs [0,2]) (.seq (.ops r_J_6) (bs [0,2,4,5]) (.seq (.seq (.ops r_J_7) (bs [2,4,54]) (.cond (t 54) (.seq (.ops r_J_8) (bs [2,3]) .ret) .skip)) (bs [2,4]) (.seq (.ops r_J_9) (bs [2,3]) .ret))))))
def f_J:ze:=⟨57,[.cell (some 3) (bits 2),.tmp (bits 3)],c_J,none,none⟩
def r_i_1:List CI:=[bx 2 (t 0),bx 3 (t 1),mv 4 ff]
def r_i_2:List CI:=[fa 9 0 2,l 10 9,fa 11 0 3,l 12 11,ca 13 n_y [(t 10),(t 12)],no 14 13,mv 15 (t 14),gu 15 false (fa 16 1 2),gu 15 false (l 17 16),gu 15 false (le 18 (t 17)),gu 15 false (fa 19 1 3),gu 15 false (l 20 19),gu 15 false (le 21 (t 20)),gu 15 false (bi .neq 22 (t 18) (t 21)),pk 23 (t 15) tt (t 22),mv 24 (t 23),gu 24 false (fa 25 2 2),gu 24 false (l 26 25),gu 24 false (le 27 (t 26)),gu 24 false (fa 28 2 3),gu 24 false (l 29 28),gu 24 false (le 30 (t 29)),gu 24 false (bi .neq 31 (t 27) (t 30)),pk 32 (t 24) tt (t 31)]
def r_i_3:List CI:=[mv 4 ff]
def r_i_4:List CI:=[mv 5 (i 0)]
def r_i_5:List CI:=[mv 33 (t 5),fa 34 1 2,l 35 34,le 36 (t 35),bi .lss 37 (t 33) (t 36)]
def r_i_6:List CI:=[fa 40 1 2,l 41 40,mv 42 (t 5),ia 43 2 41 (t 42),fa 44 0 43,l 45 44,fa 46 1 3,l 47 46,mv 48 (t 5),ia 49 2 47 (t 48),fa 50 0 49,l 51 50,bi .neq 52 (t 45) (t 51),mv 53 (t 52),gu 53 false (fa 54 1 2),gu 53 false (l 55 54),gu 53 false (mv 56 (t 5)),gu 53 false (ia 57 2 55 (t 56)),gu 53 false (fa 58 1 57),gu 53 false (l 59 58),gu 53 false (fa 60 1 3),gu 53 false (l 61 60),gu 53 false (mv 62 (t 5)),gu 53 false (ia 63 2 61 (t 62)),gu 53 false (fa 64 1 63),gu 53 false (l 65 64),gu 53 false (ca 66 n_t [(t 59),(t 65)]),lo 1 (gu 53 false (no 67 66)),lo 1 (pk 68 (t 53) tt (t 67))]
def r_i_7:List CI:=[mv 4 ff]
def r_i_8:List CI:=[mv 38 (t 5),bi .add 39 (t 38) (i 1),mv 5 (t 39)]
def c_i_9:CC:=(.seq (.seq (.ops r_i_5) (bs [2,3,5,37]) (.cond (t 37) .skip (.exit 0))) (bs [2,3,5]) (.seq (.block 2 (.seq (.draw r_i_6) (bs [2,3,5,68]) (.cond (t 68) (.seq (.ops r_i_7) (bs [4]) .ret) .skip))) (bs [2,3,5]) (.ops r_i_8)))
def r_i_10:List CI:=[mv 6 (i 0)]
def r_i_11:List CI:=[mv 69 (t 6),fa 70 2 2,l 71 70,le 72 (t 71),bi .lss 73 (t 69) (t 72)]
def r_i_12:List CI:=[fa 76 2 2,l 77 76,mv 78 (t 6),ia 79 4 77 (t 78),ln 80 4 79,oo 7 (.alloc [(iI 0),(iI 0),(iI 0),(.slice none 0 0)]),st 4 7 (t 80)]
def r_i_13:List CI:=[fa 81 2 3,l 82 81,mv 83 (t 6),ia 84 4 82 (t 83),ln 85 4 84,oo 8 (.alloc [(iI 0),(iI 0),(iI 0),(.slice none 0 0)]),st 4 8 (t 85)]
def r_i_14:List CI:=[fa 86 0 7,l 87 86,fa 88 0 8,l 89 88,bi .neq 90 (t 87) (t 89),mv 91 (t 90),gu 91 false (fa 92 1 7),gu 91 false (fa 93 0 92),gu 91 false (l 94 93),gu 91 false (fa 95 1 8),gu 91 false (fa 96 0 95),gu 91 false (l 97 96),gu 91 false (bi .neq 98 (t 94) (t 97)),pk 99 (t 91) tt (t 98),mv 100 (t 99),gu 100 false (fa 101 1 7),gu 100 false (fa 102 1 101),gu 100 false (l 103 102),gu 100 false (fa 104 1 8),gu 100 false (fa 105 1 104),gu 100 false (l 106 105),gu 100 false (bi .neq 107 (t 103) (t 106)),pk 108 (t 100) tt (t 107),mv 109 (t 108),gu 109 false (fa 110 1 7),gu 109 false (fa 111 2 110),gu 109 false (l 112 111),gu 109 false (fa 113 1 8),gu 109 false (fa 114 2 113),gu 109 false (l 115 114),gu 109 false (ca 116 n_v [(t 112),(t 115)]),gu 109 false (no 117 116),pk 118 (t 109) tt (t 117)]
def r_i_15:List CI:=[mv 4 ff]
def r_i_16:List CI:=[mv 74 (t 6),bi .add 75 (t 74) (i 1),mv 6 (t 75)]
def c_i_17:CC:=(.seq (.seq (.ops r_i_11) (bs [2,3,6,73]) (.cond (t 73) .skip (.exit 4))) (bs [2,3,6]) (.seq (.block 6 (.seq (.ops r_i_12) (bs [2,3,6,7]) (.seq (.ops r_i_13) (bs [2,3,6,7,8]) (.seq (.ops r_i_14) (bs [2,3,6,118]) (.cond (t 118) (.seq (.ops r_i_15) (bs [4]) .ret) .skip))))) (bs [2,3,6]) (.ops r_i_16)))
def r_i_18:List CI:=[mv 4 tt]
def c_i:CC:=(.seq (.ops r_i_1) (bs [2,3]) (.seq (.seq (.ops r_i_2) (bs [2,3,32]) (.cond (t 32) (.seq (.ops r_i_3) (bs [4]) .ret) .skip)) (bs [2,3]) (.seq (.seq (.ops r_i_4) (bs [2,3,5]) (.block 0 (.loop (bs [2,3,5]) c_i_9))) (bs [2,3]) (.seq (.seq (.ops r_i_10) (bs [2,3,6]) (.block 4 (.loop (bs [2,3,6]) c_i_17))) [] (.seq (.ops r_i_18) (bs [4]) .ret)))))
def f_i:ze:=⟨119,[.tmp (bits 4)],c_i,none,none⟩
def r_bf_1:List CI:=[mv 2 ff]
def r_bf_2:List CI:=[mv 3 (t 0),le 4 (t 3),bi .gtr 5 (t 4) (i 1000),mv 2 (t 5)]
def c_bf:CC:=(.seq (.ops r_bf_1) (bs [0]) (.seq (.ops r_bf_2) (bs [2]) .ret))
def f_bf:ze:=⟨6,[.tmp (bits 2)],c_bf,none,none⟩
def r_v_1:List CI:=[mv 4 ff]
def r_v_2:List CI:=[mv 6 (t 0),le 7 (t 6),mv 8 (t 1),le 9 (t 8),bi .neq 10 (t 7) (t 9)]
def r_v_3:List CI:=[mv 4 ff]
def r_v_4:List CI:=[mv 5 (i 0)]
def r_v_5:List CI:=[mv 11 (t 5),mv 12 (t 0),le 13 (t 12),bi .lss 14 (t 11) (t 13)]
def r_v_6:List CI:=[mv 17 (t 0),mv 18 (t 5),ia 19 2 17 (t 18),ln 20 2 19,mv 21 (t 1),mv 22 (t 5),ia 23 2 21 (t 22),ln 24 2 23,oo 25 (.bin .neq (.leaves [0,1]) (t 20) (t 24))]
def r_v_7:List CI:=[mv 4 ff]
def r_v_8:List CI:=[mv 15 (t 5),bi .add 16 (t 15) (i 1),mv 5 (t 16)]
def c_v_9:CC:=(.seq (.seq (.ops r_v_5) (bs [0,1,5,14]) (.cond (t 14) .skip (.exit 0))) (bs [0,1,5]) (.seq (.block 2 (.seq (.draw r_v_6) (bs [0,1,5,25]) (.cond (t 25) (.seq (.ops r_v_7) (bs [4]) .ret) .skip))) (bs [0,1,5]) (.ops r_v_8)))
def r_v_10:List CI:=[mv 4 tt]
def c_v:CC:=(.seq (.ops r_v_1) (bs [0,1]) (.seq (.seq (.ops r_v_2) (bs [0,1,10]) (.cond (t 10) (.seq (.ops r_v_3) (bs [4]) .ret) .skip)) (bs [0,1]) (.seq (.seq (.ops r_v_4) (bs [0,1,5]) (.block 0 (.loop (bs [0,1,5]) c_v_9))) [] (.seq (.ops r_v_10) (bs [4]) .ret))))
def f_v:ze:=⟨26,[.tmp (bits 4)],c_v,none,none⟩
def r_bA:List CI:=[bx 1 (t 0),mv 2 ff]
def r_bB:List CI:=[fa 6 0 1,l 7 6,le 8 (t 7),bi .lss 9 (t 8) (i 1),mv 10 (t 9),gu 10 false (fa 11 0 1),gu 10 false (l 12 11),gu 10 false (le 13 (t 12)),gu 10 false (bi .gtr 14 (t 13) (i 24)),pk 15 (t 10) tt (t 14),mv 16 (t 15),gu 16 false (fa 17 1 1),gu 16 false (l 18 17),gu 16 false (le 19 (t 18)),gu 16 false (bi .gtr 20 (t 19) (i 60)),pk 21 (t 16) tt (t 20),mv 22 (t 21),gu 22 false (fa 23 2 1),gu 22 false (l 24 23),gu 22 false (le 25 (t 24)),gu 22 false (bi .gtr 26 (t 25) (i 40)),pk 27 (t 22) tt (t 26)]
def r_bz:List CI:=[mv 2 ff]
def r_bt:List CI:=[fa 28 0 1,l 29 28,ca 30 n_5 [(t 29)],no 31 30,mv 32 (t 31),gu 32 false (fa 33 0 1),gu 32 false (l 34 33),gu 32 false (ca 35 n_bl [(t 34),(fc n_bA)]),gu 32 false (no 36 35),pk 37 (t 32) tt (t 36)]
def r_x_5:List CI:=[mv 2 ff]
def r_x_6:List CI:=[fa 38 1 1,l 39 38,ca 40 n_p [(t 39),(fc n_bB)],ca 41 n_5 [(t 40)],no 42 41]
def r_x_7:List CI:=[mv 2 ff]
def r_x_8:List CI:=[mv 3 (fc n_bz)]
def r_x_9:List CI:=[oo 4 (.alloc [(iI 0)]),st 1 4 (i (-1))]
def r_x_10:List CI:=[oo 43 (.makeFunc (.func n_bt) [] [(t 4),(t 1)]),mv 5 (t 43)]
def r_x_11:List CI:=[fa 44 1 1,l 45 44,mv 46 (t 3),ca 47 n_6 [(t 45),(t 46)],mv 48 (t 47),gu 48 true (fa 49 2 1),gu 48 true (l 50 49),gu 48 true (mv 51 (t 5)),gu 48 true (ca 52 n_7 [(t 50),(t 51)]),pk 53 (t 48) (t 52) ff,mv 2 (t 53)]
def c_x:CC:=(.seq (.ops r_bA) (bs [1]) (.seq (.seq (.ops r_bB) (bs [1,27]) (.cond (t 27) (.seq (.ops r_bz) (bs [2]) .ret) .skip)) (bs [1]) (.seq (.seq (.ops r_bt) (bs [1,37]) (.cond (t 37) (.seq (.ops r_x_5) (bs [2]) .ret) .skip)) (bs [1]) (.seq (.seq (.ops r_x_6) (bs [1,42]) (.cond (t 42) (.seq (.ops r_x_7) (bs [2]) .ret) .skip)) (bs [1]) (.seq (.ops r_x_8) (bs [1,3]) (.seq (.ops r_x_9) (bs [1,3,4]) (.seq (.ops r_x_10) (bs [1,3,5]) (.seq (.ops r_x_11) (bs [2]) .ret))))))))
def f_x:ze:=⟨54,[.tmp (bits 2)],c_x,none,none⟩
def r_n_1:List CI:=[bx 1 (t 0),mv 2 (.c (.string ⟨#[]⟩))]
def r_n_2:List CI:=[ca 12 n_bq [],mv 3 (t 12)]
def r_n_3:List CI:=[mv 13 (t 3),fa 14 0 1,l 15 14,le 16 (t 15),ca 17 n_3 [(t 13),(t 16)]]
def r_n_4:List CI:=[fa 18 0 1,l 19 18,le 20 (t 19),mv 21 (i 0)]
def r_n_5:List CI:=[bi .lss 22 (t 21) (t 20)]
def r_n_6:List CI:=[ia 23 1 19 (t 21),l 24 23,mv 5 (t 24)]
def r_n_7:List CI:=[mv 25 (t 3),mv 26 (t 5),ca 27 n_bi [(t 25),(t 26)]]
def r_n_8:List CI:=[bi .add 28 (t 21) (i 1),mv 21 (t 28)]
def c_n_9:CC:=(.seq (.ops r_n_5) (bs [1,3,19,20,21,22]) (.seq (.cond (t 22) .skip (.exit 0)) (bs [1,3,19,20,21]) (.seq (.block 2 (.seq (.ops r_n_6) (bs [1,3,5,19,20,21]) (.ops r_n_7))) (bs [1,3,19,20,21]) (.ops r_n_8))))
def r_n_10:List CI:=[mv 29 (t 3),fa 30 1 1,l 31 30,le 32 (t 31),ca 33 n_3 [(t 29),(t 32)]]
def r_n_11:List CI:=[fa 34 1 1,l 35 34,le 36 (t 35),mv 37 (i 0)]
def r_n_12:List CI:=[bi .lss 38 (t 37) (t 36)]
def r_n_13:List CI:=[ia 39 2 35 (t 37),ln 40 2 39,oo 7 (.alloc [(iI 0),(.slice none 0 0)]),st 2 7 (t 40)]
def r_n_14:List CI:=[mv 41 (t 3),fa 42 0 7,l 43 42,ca 44 n_bh [(t 41),(t 43)]]
def r_n_15:List CI:=[mv 45 (t 3),fa 46 1 7,l 47 46,le 48 (t 47),ca 49 n_3 [(t 45),(t 48)]]
def r_n_16:List CI:=[fa 50 1 7,l 51 50,le 52 (t 51),mv 53 (i 0)]
def r_n_17:List CI:=[bi .lss 54 (t 53) (t 52)]
def r_n_18:List CI:=[ia 55 1 51 (t 53),ln 56 1 55,oo 9 (.alloc [(.slice none 0 0)]),st 1 9 (t 56)]
def r_n_19:List CI:=[mv 57 (t 3),fa 58 0 9,l 59 58,ca 60 n_I [(t 57),(t 59)]]
def r_n_20:List CI:=[bi .add 61 (t 53) (i 1),mv 53 (t 61)]
def c_n_21:CC:=(.seq (.ops r_n_17) (bs [1,3,35,36,37,51,52,53,54]) (.seq (.cond (t 54) .skip (.exit 8)) (bs [1,3,35,36,37,51,52,53]) (.seq (.block 10 (.seq (.ops r_n_18) (bs [1,3,9,35,36,37,51,52,53]) (.ops r_n_19))) (bs [1,3,35,36,37,51,52,53]) (.ops r_n_20))))
def r_n_22:List CI:=[bi .add 62 (t 37) (i 1),mv 37 (t 62)]
def c_n_23:CC:=(.seq (.ops r_n_12) (bs [1,3,35,36,37,38]) (.seq (.cond (t 38) .skip (.exit 4)) (bs [1,3,35,36,37]) (.seq (.block 6 (.seq (.ops r_n_13) (bs [1,3,7,35,36,37]) (.seq (.ops r_n_14) (bs [1,3,7,35,36,37]) (.seq (.ops r_n_15) (bs [1,3,7,35,36,37]) (.seq (.ops r_n_16) (bs [1,3,35,36,37,51,52,53]) (.block 8 (.loop (bs [1,3,35,36,37,51,52,53]) c_n_21))))))) (bs [1,3,35,36,37]) (.ops r_n_22))))
def r_n_24:List CI:=[mv 63 (t 3),fa 64 2 1,l 65 64,le 66 (t 65),ca 67 n_3 [(t 63),(t 66)]]
def r_n_25:List CI:=[fa 68 2 1,l 69 68,le 70 (t 69),mv 71 (i 0)]
def r_n_26:List CI:=[bi .lss 72 (t 71) (t 70)]
def r_n_27:List CI:=[ia 73 4 69 (t 71),ln 74 4 73,oo 11 (.alloc [(iI 0),(iI 0),(iI 0),(.slice none 0 0)]),st 4 11 (t 74)]
def r_n_28:List CI:=[mv 75 (t 3),fa 76 0 11,l 77 76,ca 78 n_3 [(t 75),(t 77)]]
def r_n_29:List CI:=[mv 79 (t 3),fa 80 1 11,fa 81 0 80,l 82 81,ca 83 n_bi [(t 79),(t 82)]]
def r_n_30:List CI:=[mv 84 (t 3),fa 85 1 11,fa 86 1 85,l 87 86,ca 88 n_3 [(t 84),(t 87)]]
def r_n_31:List CI:=[mv 89 (t 3),fa 90 1 11,fa 91 2 90,l 92 91,ca 93 n_I [(t 89),(t 92)]]
def r_n_32:List CI:=[bi .add 94 (t 71) (i 1),mv 71 (t 94)]
def c_n_33:CC:=(.seq (.ops r_n_26) (bs [3,69,70,71,72]) (.seq (.cond (t 72) .skip (.exit 12)) (bs [3,69,70,71]) (.seq (.block 14 (.seq (.ops r_n_27) (bs [3,11,69,70,71]) (.seq (.ops r_n_28) (bs [3,11,69,70,71]) (.seq (.ops r_n_29) (bs [3,11,69,70,71]) (.seq (.ops r_n_30) (bs [3,11,69,70,71]) (.ops r_n_31)))))) (bs [3,69,70,71]) (.ops r_n_32))))
def r_n_34:List CI:=[mv 95 (t 3),ca 96 n_bk [(t 95),(.c (.int .u8 80))],mv 2 (t 96)]
def c_n:CC:=(.seq (.ops r_n_1) (bs [1]) (.seq (.ops r_n_2) (bs [1,3]) (.seq (.ops r_n_3) (bs [1,3]) (.seq (.seq (.ops r_n_4) (bs [1,3,19,20,21]) (.block 0 (.loop (bs [1,3,19,20,21]) c_n_9))) (bs [1,3]) (.seq (.ops r_n_10) (bs [1,3]) (.seq (.seq (.ops r_n_11) (bs [1,3,35,36,37]) (.block 4 (.loop (bs [1,3,35,36,37]) c_n_23))) (bs [1,3]) (.seq (.ops r_n_24) (bs [1,3]) (.seq (.seq (.ops r_n_25) (bs [3,69,70,71]) (.block 12 (.loop (bs [3,69,70,71]) c_n_33))) (bs [3]) (.seq (.ops r_n_34) (bs [2]) .ret)))))))))
def f_n:ze:=⟨97,[.tmp (bits 2)],c_n,none,none⟩
def r_d_1:List CI:=[bx 1 (t 0),mv 2 ff]
def r_d_2:List CI:=[fa 8 0 1,l 9 8,le 10 (t 9),ca 11 n_1 [(t 10),(i 1),(i 24)],no 12 11,mv 13 (t 12),gu 13 false (fa 14 1 1),gu 13 false (l 15 14),gu 13 false (le 16 (t 15)),gu 13 false (bi .gtr 17 (t 16) (i 60)),pk 18 (t 13) tt (t 17),mv 19 (t 18),gu 19 false (fa 20 2 1),gu 19 false (l 21 20),gu 19 false (le 22 (t 21)),gu 19 false (bi .gtr 23 (t 22) (i 40)),pk 24 (t 19) tt (t 23)]
def r_d_3:List CI:=[mv 2 ff]
def r_d_4:List CI:=[mv 3 (i 0)]
def r_d_5:List CI:=[mv 25 (t 3),fa 26 0 1,l 27 26,le 28 (t 27),bi .lss 29 (t 25) (t 28)]
def r_d_6:List CI:=[fa 32 0 1,l 33 32,mv 34 (t 3),ia 35 1 33 (t 34),l 36 35,ca 37 n_1 [(t 36),(i 0),(i 23)],lo 1 (no 38 37),lo 1 (mv 39 (t 38)),lo 1 (gu 39 false (fa 40 0 1)),lo 1 (gu 39 false (l 41 40)),lo 1 (gu 39 false (mv 42 (t 3))),lo 1 (gu 39 false (oo 43 (.slice 1 (t 41) none (some (t 42))))),lo 1 (gu 39 false (fa 44 0 1)),lo 1 (gu 39 false (l 45 44)),lo 1 (gu 39 false (mv 46 (t 3))),lo 1 (gu 39 false (ia 47 1 45 (t 46))),lo 1 (gu 39 false (l 48 47)),lo 1 (gu 39 false (ca 49 n_T [(t 43),(t 48)])),lo 2 (pk 50 (t 39) tt (t 49))]
def r_d_7:List CI:=[mv 2 ff]
def r_d_8:List CI:=[mv 30 (t 3),bi .add 31 (t 30) (i 1),mv 3 (t 31)]
def c_d_9:CC:=(.seq (.seq (.ops r_d_5) (bs [1,3,29]) (.cond (t 29) .skip (.exit 0))) (bs [1,3]) (.seq (.block 2 (.seq (.draw r_d_6) (bs [1,3,50]) (.cond (t 50) (.seq (.ops r_d_7) (bs [2]) .ret) .skip))) (bs [1,3]) (.ops r_d_8)))
def r_d_10:List CI:=[mv 4 (i 0)]
def r_d_11:List CI:=[mv 51 (t 4),fa 52 1 1,l 53 52,le 54 (t 53),bi .lss 55 (t 51) (t 54)]
def r_d_12:List CI:=[fa 58 1 1,l 59 58,mv 60 (t 4),ia 61 2 59 (t 60),ln 62 2 61,ca 63 n_G [(t 62)],no 64 63]
def r_d_13:List CI:=[mv 2 ff]
def r_d_14:List CI:=[mv 5 (i 0)]
def r_d_15:List CI:=[mv 65 (t 5),mv 66 (t 4),bi .lss 67 (t 65) (t 66)]
def r_d_16:List CI:=[fa 70 1 1,l 71 70,mv 72 (t 5),ia 73 2 71 (t 72),fa 74 0 73,l 75 74,fa 76 1 1,l 77 76,mv 78 (t 4),ia 79 2 77 (t 78),fa 80 0 79,l 81 80,bi .eql 82 (t 75) (t 81)]
def r_d_17:List CI:=[mv 2 ff]
def r_d_18:List CI:=[mv 68 (t 5),bi .add 69 (t 68) (i 1),mv 5 (t 69)]
def c_d_19:CC:=(.seq (.seq (.ops r_d_15) (bs [1,4,5,67]) (.cond (t 67) .skip (.exit 8))) (bs [1,4,5]) (.seq (.block 10 (.seq (.draw r_d_16) (bs [1,4,5,82]) (.cond (t 82) (.seq (.ops r_d_17) (bs [2]) .ret) .skip))) (bs [1,4,5]) (.ops r_d_18)))
def r_d_20:List CI:=[mv 56 (t 4),bi .add 57 (t 56) (i 1),mv 4 (t 57)]
def c_d_21:CC:=(.seq (.seq (.ops r_d_11) (bs [1,4,55]) (.cond (t 55) .skip (.exit 4))) (bs [1,4]) (.seq (.block 6 (.seq (.seq (.ops r_d_12) (bs [1,4,64]) (.cond (t 64) (.seq (.ops r_d_13) (bs [2]) .ret) .skip)) (bs [1,4]) (.seq (.ops r_d_14) (bs [1,4,5]) (.block 8 (.loop (bs [1,4,5]) c_d_19))))) (bs [1,4]) (.ops r_d_20)))
def r_d_22:List CI:=[mv 6 (i 0)]
def r_d_23:List CI:=[mv 83 (t 6),fa 84 2 1,l 85 84,le 86 (t 85),bi .lss 87 (t 83) (t 86)]
def r_d_24:List CI:=[fa 90 2 1,l 91 90,mv 92 (t 6),ia 93 4 91 (t 92),ln 94 4 93,oo 7 (.alloc [(iI 0),(iI 0),(iI 0),(.slice none 0 0)]),st 4 7 (t 94)]
def r_d_25:List CI:=[fa 95 0 7,l 96 95,ca 97 n_1 [(t 96),(i 0),(i 39)],lo 1 (no 98 97),lo 1 (mv 99 (t 98)),lo 1 (gu 99 false (mv 100 (t 6))),lo 1 (gu 99 false (bi .gtr 101 (t 100) (i 0))),lo 1 (gu 99 false (mv 102 (t 101))),lo 1 (gu 102 true (fa 103 0 7)),lo 1 (gu 102 true (l 104 103)),lo 1 (gu 102 true (fa 105 2 1)),lo 1 (gu 102 true (l 106 105)),lo 1 (gu 102 true (mv 107 (t 6))),lo 1 (gu 102 true (bi .sub 108 (t 107) (i 1))),lo 1 (gu 102 true (ia 109 4 106 (t 108))),lo 1 (gu 102 true (fa 110 0 109)),lo 1 (gu 102 true (l 111 110)),lo 1 (gu 102 true (bi .leq 112 (t 104) (t 111))),lo 1 (gu 99 false (pk 113 (t 102) (t 112) ff)),lo 1 (pk 114 (t 99) tt (t 113))]
def r_d_26:List CI:=[mv 2 ff]
def r_d_27:List CI:=[fa 115 0 1,l 116 115,fa 117 1 7,fa 118 0 117,l 119 118,ca 120 n_T [(t 116),(t 119)],no 121 120,mv 122 (t 121),gu 122 false (fa 123 1 7),gu 122 false (fa 124 1 123),gu 122 false (l 125 124),gu 122 false (ca 126 n_1 [(t 125),(i 0),(i 59)]),gu 122 false (no 127 126),pk 128 (t 122) tt (t 127),mv 129 (t 128),gu 129 false (fa 130 1 7),gu 129 false (fa 131 2 130),gu 129 false (l 132 131),gu 129 false (ca 133 n_Q [(t 132)]),gu 129 false (no 134 133),pk 135 (t 129) tt (t 134)]
def r_d_28:List CI:=[mv 2 ff]
def r_d_29:List CI:=[mv 88 (t 6),bi .add 89 (t 88) (i 1),mv 6 (t 89)]
def c_d_30:CC:=(.seq (.seq (.ops r_d_23) (bs [1,6,87]) (.cond (t 87) .skip (.exit 12))) (bs [1,6]) (.seq (.block 14 (.seq (.ops r_d_24) (bs [1,6,7]) (.seq (.seq (.draw r_d_25) (bs [1,6,7,114]) (.cond (t 114) (.seq (.ops r_d_26) (bs [2]) .ret) .skip)) (bs [1,6,7]) (.seq (.ops r_d_27) (bs [1,6,135]) (.cond (t 135) (.seq (.ops r_d_28) (bs [2]) .ret) .skip))))) (bs [1,6]) (.ops r_d_29)))
def r_d_31:List CI:=[mv 2 tt]
def c_d:CC:=(.seq (.ops r_d_1) (bs [1]) (.seq (.seq (.ops r_d_2) (bs [1,24]) (.cond (t 24) (.seq (.ops r_d_3) (bs [2]) .ret) .skip)) (bs [1]) (.seq (.seq (.ops r_d_4) (bs [1,3]) (.block 0 (.loop (bs [1,3]) c_d_9))) (bs [1]) (.seq (.seq (.ops r_d_10) (bs [1,4]) (.block 4 (.loop (bs [1,4]) c_d_21))) (bs [1]) (.seq (.seq (.ops r_d_22) (bs [1,6]) (.block 12 (.loop (bs [1,6]) c_d_30))) [] (.seq (.ops r_d_31) (bs [2]) .ret))))))
def f_d:ze:=⟨136,[.tmp (bits 2)],c_d,none,none⟩
def r_a_1:List CI:=[bx 1 (t 0),mv 2 (.c (.string ⟨#[]⟩))]
def r_a_2:List CI:=[oo 3 (.alloc [(.slice none 0 0),(.slice none 0 0)])]
def r_a_3:List CI:=[fa 10 0 1,l 11 10,le 12 (t 11),ca 13 n_P [(t 3),(t 12)]]
def r_a_4:List CI:=[mv 4 (i 0)]
def r_a_5:List CI:=[mv 14 (t 4),fa 15 0 1,l 16 15,le 17 (t 16),bi .lss 18 (t 14) (t 17)]
def r_a_6:List CI:=[fa 21 0 1,l 22 21,mv 23 (t 4),ia 24 1 22 (t 23),l 25 24,ca 26 n_bc [(t 25)],ca 27 n_o [(t 3),(t 26)],ca 28 n_P [(t 3),(t 27)]]
def r_a_7:List CI:=[mv 19 (t 4),bi .add 20 (t 19) (i 1),mv 4 (t 20)]
def c_a_8:CC:=(.seq (.seq (.ops r_a_5) (bs [1,3,4,18]) (.cond (t 18) .skip (.exit 0))) (bs [1,3,4]) (.seq (.block 2 (.ops r_a_6)) (bs [1,3,4]) (.ops r_a_7)))
def r_a_9:List CI:=[fa 29 1 1,l 30 29,le 31 (t 30),ca 32 n_P [(t 3),(t 31)]]
def r_a_10:List CI:=[mv 5 (i 0)]
def r_a_11:List CI:=[mv 33 (t 5),fa 34 1 1,l 35 34,le 36 (t 35),bi .lss 37 (t 33) (t 36)]
def r_a_12:List CI:=[fa 40 1 1,l 41 40,mv 42 (t 5),ia 43 2 41 (t 42),ln 44 2 43,oo 6 (.alloc [(iI 0),(.slice none 0 0)]),st 2 6 (t 44)]
def r_a_13:List CI:=[fa 45 0 6,l 46 45,ca 47 n_9 [(t 46)],ca 48 n_o [(t 3),(t 47)],ca 49 n_P [(t 3),(t 48)]]
def r_a_14:List CI:=[fa 50 1 6,l 51 50,le 52 (t 51),ca 53 n_P [(t 3),(t 52)]]
def r_a_15:List CI:=[mv 7 (i 0)]
def r_a_16:List CI:=[mv 54 (t 7),fa 55 1 6,l 56 55,le 57 (t 56),bi .lss 58 (t 54) (t 57)]
def r_a_17:List CI:=[fa 61 1 6,l 62 61,mv 63 (t 7),ia 64 1 62 (t 63),fa 65 0 64,l 66 65,ca 67 n_m [(t 3),(t 66)]]
def r_a_18:List CI:=[mv 59 (t 7),bi .add 60 (t 59) (i 1),mv 7 (t 60)]
def c_a_19:CC:=(.seq (.seq (.ops r_a_16) (bs [1,3,5,6,7,58]) (.cond (t 58) .skip (.exit 8))) (bs [1,3,5,6,7]) (.seq (.block 10 (.ops r_a_17)) (bs [1,3,5,6,7]) (.ops r_a_18)))
def r_a_20:List CI:=[mv 38 (t 5),bi .add 39 (t 38) (i 1),mv 5 (t 39)]
def c_a_21:CC:=(.seq (.seq (.ops r_a_11) (bs [1,3,5,37]) (.cond (t 37) .skip (.exit 4))) (bs [1,3,5]) (.seq (.block 6 (.seq (.ops r_a_12) (bs [1,3,5,6]) (.seq (.ops r_a_13) (bs [1,3,5,6]) (.seq (.ops r_a_14) (bs [1,3,5,6]) (.seq (.ops r_a_15) (bs [1,3,5,6,7]) (.block 8 (.loop (bs [1,3,5,6,7]) c_a_19))))))) (bs [1,3,5]) (.ops r_a_20)))
def r_a_22:List CI:=[fa 68 2 1,l 69 68,le 70 (t 69),ca 71 n_P [(t 3),(t 70)]]
def r_a_23:List CI:=[mv 8 (i 0)]
def r_a_24:List CI:=[mv 72 (t 8),fa 73 2 1,l 74 73,le 75 (t 74),bi .lss 76 (t 72) (t 75)]
def r_a_25:List CI:=[fa 79 2 1,l 80 79,mv 81 (t 8),ia 82 4 80 (t 81),ln 83 4 82,oo 9 (.alloc [(iI 0),(iI 0),(iI 0),(.slice none 0 0)]),st 4 9 (t 83)]
def r_a_26:List CI:=[fa 84 0 9,l 85 84,ca 86 n_P [(t 3),(t 85)]]
def r_a_27:List CI:=[fa 87 1 9,fa 88 0 87,l 89 88,ca 90 n_bc [(t 89)],ca 91 n_o [(t 3),(t 90)],ca 92 n_P [(t 3),(t 91)]]
def r_a_28:List CI:=[fa 93 1 9,fa 94 1 93,l 95 94,ca 96 n_P [(t 3),(t 95)]]
def r_a_29:List CI:=[fa 97 1 9,fa 98 2 97,l 99 98,ca 100 n_m [(t 3),(t 99)]]
def r_a_30:List CI:=[mv 77 (t 8),bi .add 78 (t 77) (i 1),mv 8 (t 78)]
def c_a_31:CC:=(.seq (.seq (.ops r_a_24) (bs [1,3,8,76]) (.cond (t 76) .skip (.exit 12))) (bs [1,3,8]) (.seq (.block 14 (.seq (.ops r_a_25) (bs [1,3,8,9]) (.seq (.ops r_a_26) (bs [1,3,8,9]) (.seq (.ops r_a_27) (bs [1,3,8,9]) (.seq (.ops r_a_28) (bs [1,3,8,9]) (.ops r_a_29)))))) (bs [1,3,8]) (.ops r_a_30)))
def r_a_32:List CI:=[ca 101 n_r [(t 3),(.c (.int .u8 80))],mv 2 (t 101)]
def c_a:CC:=(.seq (.ops r_a_1) (bs [1]) (.seq (.ops r_a_2) (bs [1,3]) (.seq (.ops r_a_3) (bs [1,3]) (.seq (.seq (.ops r_a_4) (bs [1,3,4]) (.block 0 (.loop (bs [1,3,4]) c_a_8))) (bs [1,3]) (.seq (.ops r_a_9) (bs [1,3]) (.seq (.seq (.ops r_a_10) (bs [1,3,5]) (.block 4 (.loop (bs [1,3,5]) c_a_21))) (bs [1,3]) (.seq (.ops r_a_22) (bs [1,3]) (.seq (.seq (.ops r_a_23) (bs [1,3,8]) (.block 12 (.loop (bs [1,3,8]) c_a_31))) (bs [3]) (.seq (.ops r_a_32) (bs [2]) .ret)))))))))
def f_a:ze:=⟨102,[.tmp (bits 2)],c_a,none,none⟩
def r_bv:List CI:=[oo 2 (.alloc [(.bool false)])]
def r_4_2:List CI:=[oo 3 (.makeFunc (.func n_bv) [] [(t 2)])]
def r_4_3:List CI:=[mv 4 (t 0),oo 5 (.call (t 4) [])]
def r_4_4:List CI:=[st 1 2 tt]
def c_4:CC:=(.seq (.ops r_bv) (bs [0,2]) (.ops r_4_2))
def zgL:CC:=(.seq (.ops []) (bs [0,2]) (.seq (.ops r_4_3) (bs [2]) (.seq (.ops r_4_4) (bs [2]) .ret)))
def f_4:ze:=⟨6,[.cell none (bits 2)],c_4,some ⟨(t 3),[],(bs [0,2]),zgL⟩,none⟩
def r_bC_1:List CI:=[l 2 0,ca 3 n_X [(t 2),(.c (.int .u8 80))],ca 4 n_c [(t 3)],st 3 1 (t 4)]
def c_bC:CC:=(.ops r_bC_1)
def f_bC:ze:=⟨5,[],c_bC,none,none⟩
def r_X_1:List CI:=[mv 4 (.c (.pointer none))]
def r_X_2:List CI:=[mv 9 (t 0),oo 10 (.blt .lenStr [(t 9)]),bi .sub 11 (t 10) (i 2),mv 5 (t 11)]
def r_X_3:List CI:=[mv 12 (t 5),bi .lss 13 (t 12) (i 1),mv 14 (t 13),gu 14 false (mv 15 (t 0)),gu 14 false (oo 16 (.strIdx (t 15) (i 0))),gu 14 false (mv 17 (t 1)),gu 14 false (bi .neq 18 (t 16) (t 17)),pk 19 (t 14) tt (t 18),mv 20 (t 19),gu 20 false (mv 21 (t 0)),gu 20 false (mv 22 (t 5)),gu 20 false (oo 23 (.strSlice (t 21) none (some (t 22)))),gu 20 false (oo 24 (.s2b (t 23))),lo 1 (gu 20 false (ca 25 n_W [(t 24)])),lo 2 (gu 20 false (oo 26 (.b2s (t 25)))),gu 20 false (mv 27 (t 0)),gu 20 false (mv 28 (t 5)),gu 20 false (oo 29 (.strSlice (t 27) (some (t 28)) none)),lo 2 (gu 20 false (bi .neq 30 (t 26) (t 29))),lo 2 (pk 31 (t 20) tt (t 30))]
def r_X_4:List CI:=[oo 32 (.build [] []),oo 33 (.mkI 192 (t 32)),on (.panic (t 33))]
def r_X_5:List CI:=[mv 34 (t 0),mv 35 (t 5),oo 36 (.strSlice (t 34) (some (i 1)) (some (t 35))),oo 37 (.build [(.slice none 0 0),(.map none),(.string ⟨#[]⟩)] [(2,1,(t 36))]),bx 38 (t 37),mv 6 (t 38)]
def r_X_6:List CI:=[mv 39 (t 6),ca 40 n_V [(t 39)],mv 41 (i 0)]
def r_X_7:List CI:=[bi .lss 42 (t 41) (t 40)]
def r_X_8:List CI:=[mv 43 (t 6),ca 44 n_u [(t 43)],mv 7 (t 44)]
def r_X_9:List CI:=[mv 45 (t 6),ca 46 n_u [(t 45)],mv 8 (t 46)]
def r_X_10:List CI:=[mv 47 (t 6),mv 48 (t 6),nc 49 48,fa 50 0 49,fa 51 0 50,l 52 51,mv 53 (t 7),mv 54 (t 8),oo 55 (.build [(iI 0),(iI 0)] [(0,1,(t 53)),(1,1,(t 54))]),oo 56 (.buildSlice 1 2 [(iI 0),(iI 0)] [(0,(t 55))]),ap 57 2 16 (t 52) (t 56),nc 58 47,fa 59 0 58,fa 60 0 59,st 1 60 (t 57)]
def r_X_11:List CI:=[bi .add 61 (t 41) (i 1),mv 41 (t 61)]
def c_X_12:CC:=(.seq (.ops r_X_7) (bs [6,40,41,42]) (.seq (.cond (t 42) .skip (.exit 0)) (bs [6,40,41]) (.seq (.block 2 (.seq (.ops r_X_8) (bs [6,7,40,41]) (.seq (.ops r_X_9) (bs [6,7,8,40,41]) (.ops r_X_10)))) (bs [6,40,41]) (.ops r_X_11))))
def r_X_13:List CI:=[mv 62 (t 6),mv 4 (t 62)]
def c_X:CC:=(.seq (.ops r_X_1) (bs [0,1]) (.seq (.ops r_X_2) (bs [0,1,5]) (.seq (.seq (.draw r_X_3) (bs [0,5,31]) (.cond (t 31) (.ops r_X_4) .skip)) (bs [0,5]) (.seq (.ops r_X_5) (bs [6]) (.seq (.seq (.ops r_X_6) (bs [6,40,41]) (.block 0 (.loop (bs [6,40,41]) c_X_12))) (bs [6]) (.seq (.ops r_X_13) (bs [4]) .ret))))))
def f_X:ze:=⟨63,[.tmp (bits 4)],c_X,none,none⟩
def r_c_1:List CI:=[oo 2 (.alloc [(.slice none 0 0),(.slice none 0 0),(.slice none 0 0)])]
def r_c_2:List CI:=[oo 3 (.alloc [(.slice none 0 0),(.slice none 0 0),(.slice none 0 0)])]
def r_c_3:List CI:=[mv 6 (t 0),ca 7 n_V [(t 6)],mv 8 (i 0)]
def r_c_4:List CI:=[bi .lss 9 (t 8) (t 7)]
def r_c_5:List CI:=[mv 12 (t 0),ca 13 n_0 [(t 12),(i 4)],fa 10 0 3,l 11 10,lo 1 (oo 14 (.buildSlice 1 1 [(iI 0)] [(0,(t 13))])),lo 1 (ap 15 1 8 (t 11) (t 14)),lo 2 (fa 16 0 3),lo 2 (st 1 16 (t 15))]
def r_c_6:List CI:=[bi .add 17 (t 8) (i 1),mv 8 (t 17)]
def c_c_7:CC:=(.seq (.ops r_c_4) (bs [0,2,3,7,8,9]) (.seq (.cond (t 9) .skip (.exit 0)) (bs [0,2,3,7,8]) (.seq (.block 2 (.draw r_c_5)) (bs [0,2,3,7,8]) (.ops r_c_6))))
def r_c_8:List CI:=[mv 18 (t 0),ca 19 n_V [(t 18)],mv 20 (i 0)]
def r_c_9:List CI:=[bi .lss 21 (t 20) (t 19)]
def r_c_10:List CI:=[mv 22 (t 0),ca 23 n_0 [(t 22),(i 3)],oo 24 (.build [(iI 0),(.slice none 0 0)] [(0,1,(t 23))]),oo 4 (.alloc [(iI 0),(.slice none 0 0)]),st 2 4 (t 24)]
def r_c_11:List CI:=[mv 25 (t 0),ca 26 n_V [(t 25)],mv 27 (i 0)]
def r_c_12:List CI:=[bi .lss 28 (t 27) (t 26)]
def r_c_13:List CI:=[mv 31 (t 0),ca 32 n_z [(t 31)],fa 29 1 4,l 30 29,lo 1 (oo 33 (.build [(.slice none 0 0)] [(0,1,(t 32))])),lo 1 (oo 34 (.buildSlice 1 1 [(.slice none 0 0)] [(0,(t 33))])),lo 1 (ap 35 1 24 (t 30) (t 34)),lo 2 (fa 36 1 4),lo 2 (st 1 36 (t 35))]
def r_c_14:List CI:=[bi .add 37 (t 27) (i 1),mv 27 (t 37)]
def c_c_15:CC:=(.seq (.ops r_c_12) (bs [0,2,3,4,19,20,26,27,28]) (.seq (.cond (t 28) .skip (.exit 8)) (bs [0,2,3,4,19,20,26,27]) (.seq (.block 10 (.draw r_c_13)) (bs [0,2,3,4,19,20,26,27]) (.ops r_c_14))))
def r_c_16:List CI:=[fa 38 1 3,l 39 38,ln 40 2 4,oo 41 (.buildSlice 1 2 [(iI 0),(.slice none 0 0)] [(0,(t 40))]),ap 42 2 32 (t 39) (t 41),fa 43 1 3,st 1 43 (t 42)]
def r_c_17:List CI:=[bi .add 44 (t 20) (i 1),mv 20 (t 44)]
def c_c_18:CC:=(.seq (.ops r_c_9) (bs [0,2,3,19,20,21]) (.seq (.cond (t 21) .skip (.exit 4)) (bs [0,2,3,19,20]) (.seq (.block 6 (.seq (.ops r_c_10) (bs [0,2,3,4,19,20]) (.seq (.seq (.ops r_c_11) (bs [0,2,3,4,19,20,26,27]) (.block 8 (.loop (bs [0,2,3,4,19,20,26,27]) c_c_15))) (bs [0,2,3,4,19,20]) (.ops r_c_16)))) (bs [0,2,3,19,20]) (.ops r_c_17))))
def r_c_19:List CI:=[mv 45 (t 0),ca 46 n_V [(t 45)],mv 47 (i 0)]
def r_c_20:List CI:=[bi .lss 48 (t 47) (t 46)]
def r_c_21:List CI:=[oo 5 (.alloc [(iI 0),(iI 0),(iI 0),(.slice none 0 0)])]
def r_c_22:List CI:=[mv 49 (t 0),ca 50 n_u [(t 49)],fa 51 0 5,st 1 51 (t 50)]
def r_c_23:List CI:=[mv 52 (t 0),ca 53 n_0 [(t 52),(i 4)],fa 54 1 5,fa 55 0 54,st 1 55 (t 53)]
def r_c_24:List CI:=[mv 56 (t 0),ca 57 n_u [(t 56)],fa 58 1 5,fa 59 1 58,st 1 59 (t 57)]
def r_c_25:List CI:=[mv 60 (t 0),ca 61 n_z [(t 60)],fa 62 1 5,fa 63 2 62,st 1 63 (t 61)]
def r_c_26:List CI:=[fa 64 2 3,l 65 64,ln 66 4 5,oo 67 (.buildSlice 1 4 [(iI 0),(iI 0),(iI 0),(.slice none 0 0)] [(0,(t 66))]),ap 68 4 48 (t 65) (t 67),fa 69 2 3,st 1 69 (t 68)]
def r_c_27:List CI:=[bi .add 70 (t 47) (i 1),mv 47 (t 70)]
def c_c_28:CC:=(.seq (.ops r_c_20) (bs [0,2,3,46,47,48]) (.seq (.cond (t 48) .skip (.exit 12)) (bs [0,2,3,46,47]) (.seq (.block 14 (.seq (.ops r_c_21) (bs [0,2,3,5,46,47]) (.seq (.ops r_c_22) (bs [0,2,3,5,46,47]) (.seq (.ops r_c_23) (bs [0,2,3,5,46,47]) (.seq (.ops r_c_24) (bs [0,2,3,5,46,47]) (.seq (.ops r_c_25) (bs [0,2,3,5,46,47]) (.ops r_c_26))))))) (bs [0,2,3,46,47]) (.ops r_c_27))))
def r_c_29:List CI:=[ln 71 3 3,st 3 2 (t 71)]
def c_c:CC:=(.seq (.ops r_c_1) (bs [0,2]) (.seq (.ops r_c_2) (bs [0,2,3]) (.seq (.seq (.ops r_c_3) (bs [0,2,3,7,8]) (.block 0 (.loop (bs [0,2,3,7,8]) c_c_7))) (bs [0,2,3]) (.seq (.seq (.ops r_c_8) (bs [0,2,3,19,20]) (.block 4 (.loop (bs [0,2,3,19,20]) c_c_18))) (bs [0,2,3]) (.seq (.seq (.ops r_c_19) (bs [0,2,3,46,47]) (.block 12 (.loop (bs [0,2,3,46,47]) c_c_28))) (bs [2,3]) (.seq (.ops r_c_29) (bs [2]) .ret))))))
def f_c:ze:=⟨72,[.cell (some 3) (bits 2)],c_c,none,none⟩
def r_q_1:List CI:=[mv 2 (.c (.string ⟨#[]⟩))]
def r_q_2:List CI:=[mv 3 (i 65535)]
def r_q_3:List CI:=[mv 4 (i 0)]
def r_q_4:List CI:=[mv 8 (t 4),mv 9 (t 0),oo 10 (.blt .lenStr [(t 9)]),bi .lss 11 (t 8) (t 10)]
def r_q_5:List CI:=[mv 5 (i 128)]
def r_q_6:List CI:=[mv 6 (i 0)]
def r_q_7:List CI:=[mv 14 (t 6),bi .lss 15 (t 14) (i 8)]
def r_q_8:List CI:=[mv 18 (t 3),bi .quo 19 (t 18) (i 32768),mv 7 (t 19)]
def r_q_9:List CI:=[mv 20 (t 3),bi .mul 21 (t 20) (i 2),bi .rem 22 (t 21) (i 65536),mv 3 (t 22)]
def r_q_10:List CI:=[mv 23 (t 7),mv 24 (t 0),mv 25 (t 4),oo 26 (.strIdx (t 24) (t 25)),oo 27 (.conv .i64 (t 26)),mv 28 (t 5),bi .quo 29 (t 27) (t 28),bi .rem 30 (t 29) (i 2),bi .neq 31 (t 23) (t 30)]
def r_q_11:List CI:=[mv 32 (t 3),bi .xor 33 (t 32) (i 4129),mv 3 (t 33)]
def r_q_12:List CI:=[mv 34 (t 5),bi .quo 35 (t 34) (i 2),mv 5 (t 35)]
def r_q_13:List CI:=[mv 16 (t 6),bi .add 17 (t 16) (i 1),mv 6 (t 17)]
def c_q_14:CC:=(.seq (.seq (.ops r_q_7) (bs [0,3,4,5,6,15]) (.cond (t 15) .skip (.exit 4))) (bs [0,3,4,5,6]) (.seq (.block 6 (.seq (.ops r_q_8) (bs [0,3,4,5,6,7]) (.seq (.ops r_q_9) (bs [0,3,4,5,6,7]) (.seq (.seq (.ops r_q_10) (bs [0,3,4,5,6,31]) (.cond (t 31) (.ops r_q_11) .skip)) (bs [0,3,4,5,6]) (.ops r_q_12))))) (bs [0,3,4,5,6]) (.ops r_q_13)))
def r_q_15:List CI:=[mv 12 (t 4),bi .add 13 (t 12) (i 1),mv 4 (t 13)]
def c_q_16:CC:=(.seq (.seq (.ops r_q_4) (bs [0,3,4,11]) (.cond (t 11) .skip (.exit 0))) (bs [0,3,4]) (.seq (.block 2 (.seq (.ops r_q_5) (bs [0,3,4,5]) (.seq (.ops r_q_6) (bs [0,3,4,5,6]) (.block 4 (.loop (bs [0,3,4,5,6]) c_q_14))))) (bs [0,3,4]) (.ops r_q_15)))
def r_q_17:List CI:=[mv 36 (t 3),bi .quo 37 (t 36) (i 256),oo 38 (.conv .u8 (t 37)),mv 39 (t 3),bi .rem 40 (t 39) (i 256),oo 41 (.conv .u8 (t 40)),oo 42 (.buildSlice 2 1 [(.int .u8 0)] [(0,(t 38)),(1,(t 41))]),oo 43 (.b2s (t 42)),mv 2 (t 43)]
def c_q:CC:=(.seq (.ops r_q_1) (bs [0]) (.seq (.ops r_q_2) (bs [0,3]) (.seq (.seq (.ops r_q_3) (bs [0,3,4]) (.block 0 (.loop (bs [0,3,4]) c_q_16))) (bs [3]) (.seq (.ops r_q_17) (bs [2]) .ret))))
def f_q:ze:=⟨44,[.tmp (bits 2)],c_q,none,none⟩
def r_b_1:List CI:=[oo 2 (.alloc [(.slice none 0 0),(.slice none 0 0),(.slice none 0 0)]),mv 3 ff]
def r_b_2:List CI:=[oo 4 (.alloc [(.slice none 0 0),(.slice none 0 0),(.slice none 0 0)])]
def r_b_3:List CI:=[mv 14 (t 0),ca 15 n_H [(t 14)],mv 5 (t 15)]
def r_b_4:List CI:=[mv 16 (t 5),ca 17 n_w [(t 16)],mv 6 (t 17)]
def r_b_5:List CI:=[mv 7 (i 0)]
def r_b_6:List CI:=[mv 18 (t 7),mv 19 (t 6),bi .lss 20 (t 18) (t 19)]
def r_b_7:List CI:=[mv 25 (t 5),ca 26 n_C [(t 25),(i 4)],fa 23 0 4,l 24 23,lo 1 (oo 27 (.buildSlice 1 1 [(iI 0)] [(0,(t 26))])),lo 1 (ap 28 1 8 (t 24) (t 27)),lo 2 (fa 29 0 4),lo 2 (st 1 29 (t 28))]
def r_b_8:List CI:=[mv 21 (t 7),bi .add 22 (t 21) (i 1),mv 7 (t 22)]
def c_b_9:CC:=(.seq (.seq (.ops r_b_6) (bs [2,4,5,6,7,20]) (.cond (t 20) .skip (.exit 0))) (bs [2,4,5,6,7]) (.seq (.block 2 (.draw r_b_7)) (bs [2,4,5,6,7]) (.ops r_b_8)))
def r_b_10:List CI:=[mv 30 (t 5),ca 31 n_w [(t 30)],mv 6 (t 31)]
def r_b_11:List CI:=[mv 8 (i 0)]
def r_b_12:List CI:=[mv 32 (t 8),mv 33 (t 6),bi .lss 34 (t 32) (t 33)]
def r_b_13:List CI:=[mv 37 (t 5),ca 38 n_C [(t 37),(i 3)],oo 39 (.build [(iI 0),(.slice none 0 0)] [(0,1,(t 38))]),oo 9 (.alloc [(iI 0),(.slice none 0 0)]),st 2 9 (t 39)]
def r_b_14:List CI:=[mv 40 (t 5),ca 41 n_w [(t 40)],mv 10 (t 41)]
def r_b_15:List CI:=[mv 11 (i 0)]
def r_b_16:List CI:=[mv 42 (t 11),mv 43 (t 10),bi .lss 44 (t 42) (t 43)]
def r_b_17:List CI:=[mv 49 (t 5),ca 50 n_g [(t 49)],fa 47 1 9,l 48 47,lo 1 (oo 51 (.build [(.slice none 0 0)] [(0,1,(t 50))])),lo 1 (oo 52 (.buildSlice 1 1 [(.slice none 0 0)] [(0,(t 51))])),lo 1 (ap 53 1 24 (t 48) (t 52)),lo 2 (fa 54 1 9),lo 2 (st 1 54 (t 53))]
def r_b_18:List CI:=[mv 45 (t 11),bi .add 46 (t 45) (i 1),mv 11 (t 46)]
def c_b_19:CC:=(.seq (.seq (.ops r_b_16) (bs [2,4,5,6,8,9,10,11,44]) (.cond (t 44) .skip (.exit 8))) (bs [2,4,5,6,8,9,10,11]) (.seq (.block 10 (.draw r_b_17)) (bs [2,4,5,6,8,9,10,11]) (.ops r_b_18)))
def r_b_20:List CI:=[fa 55 1 4,l 56 55,ln 57 2 9,oo 58 (.buildSlice 1 2 [(iI 0),(.slice none 0 0)] [(0,(t 57))]),ap 59 2 32 (t 56) (t 58),fa 60 1 4,st 1 60 (t 59)]
def r_b_21:List CI:=[mv 35 (t 8),bi .add 36 (t 35) (i 1),mv 8 (t 36)]
def c_b_22:CC:=(.seq (.seq (.ops r_b_12) (bs [2,4,5,6,8,34]) (.cond (t 34) .skip (.exit 4))) (bs [2,4,5,6,8]) (.seq (.block 6 (.seq (.ops r_b_13) (bs [2,4,5,6,8,9]) (.seq (.ops r_b_14) (bs [2,4,5,6,8,9,10]) (.seq (.seq (.ops r_b_15) (bs [2,4,5,6,8,9,10,11]) (.block 8 (.loop (bs [2,4,5,6,8,9,10,11]) c_b_19))) (bs [2,4,5,6,8,9]) (.ops r_b_20))))) (bs [2,4,5,6,8]) (.ops r_b_21)))
def r_b_23:List CI:=[mv 61 (t 5),ca 62 n_w [(t 61)],mv 6 (t 62)]
def r_b_24:List CI:=[mv 12 (i 0)]
def r_b_25:List CI:=[mv 63 (t 12),mv 64 (t 6),bi .lss 65 (t 63) (t 64)]
def r_b_26:List CI:=[mv 68 (t 5),ca 69 n_e [(t 68)],oo 70 (.build [(iI 0),(iI 0),(iI 0),(.slice none 0 0)] [(0,1,(t 69))]),oo 13 (.alloc [(iI 0),(iI 0),(iI 0),(.slice none 0 0)]),st 4 13 (t 70)]
def r_b_27:List CI:=[mv 71 (t 5),ca 72 n_C [(t 71),(i 4)],fa 73 1 13,fa 74 0 73,st 1 74 (t 72)]
def r_b_28:List CI:=[mv 75 (t 5),ca 76 n_e [(t 75)],fa 77 1 13,fa 78 1 77,st 1 78 (t 76)]
def r_b_29:List CI:=[mv 79 (t 5),ca 80 n_g [(t 79)],fa 81 1 13,fa 82 2 81,st 1 82 (t 80)]
def r_b_30:List CI:=[fa 83 2 4,l 84 83,ln 85 4 13,oo 86 (.buildSlice 1 4 [(iI 0),(iI 0),(iI 0),(.slice none 0 0)] [(0,(t 85))]),ap 87 4 48 (t 84) (t 86),fa 88 2 4,st 1 88 (t 87)]
def r_b_31:List CI:=[mv 66 (t 12),bi .add 67 (t 66) (i 1),mv 12 (t 67)]
def c_b_32:CC:=(.seq (.seq (.ops r_b_25) (bs [2,4,5,6,12,65]) (.cond (t 65) .skip (.exit 12))) (bs [2,4,5,6,12]) (.seq (.block 14 (.seq (.ops r_b_26) (bs [2,4,5,6,12,13]) (.seq (.ops r_b_27) (bs [2,4,5,6,12,13]) (.seq (.ops r_b_28) (bs [2,4,5,6,12,13]) (.seq (.ops r_b_29) (bs [2,4,5,6,12,13]) (.ops r_b_30)))))) (bs [2,4,5,6,12]) (.ops r_b_31)))
def r_b_33:List CI:=[ln 89 3 4,st 3 2 (t 89),mv 90 (t 5),nc 91 90,fa 92 3 91,l 93 92,no 94 93,lo 1 (mv 3 (t 94))]
def c_b:CC:=(.seq (.ops r_b_1) (bs [0,2]) (.seq (.ops r_b_2) (bs [0,2,4]) (.seq (.ops r_b_3) (bs [2,4,5]) (.seq (.ops r_b_4) (bs [2,4,5,6]) (.seq (.seq (.ops r_b_5) (bs [2,4,5,6,7]) (.block 0 (.loop (bs [2,4,5,6,7]) c_b_9))) (bs [2,4,5]) (.seq (.ops r_b_10) (bs [2,4,5,6]) (.seq (.seq (.ops r_b_11) (bs [2,4,5,6,8]) (.block 4 (.loop (bs [2,4,5,6,8]) c_b_22))) (bs [2,4,5]) (.seq (.ops r_b_23) (bs [2,4,5,6]) (.seq (.seq (.ops r_b_24) (bs [2,4,5,6,12]) (.block 12 (.loop (bs [2,4,5,6,12]) c_b_32))) (bs [2,4,5]) (.seq (.draw r_b_33) (bs [2,3]) .ret))))))))))
def f_b:ze:=⟨95,[.cell (some 3) (bits 2),.tmp (bits 3)],c_b,none,none⟩
def r_y_1:List CI:=[mv 4 ff]
def r_y_2:List CI:=[mv 6 (t 0),le 7 (t 6),mv 8 (t 1),le 9 (t 8),bi .neq 10 (t 7) (t 9)]
def r_y_3:List CI:=[mv 4 ff]
def r_y_4:List CI:=[mv 5 (i 0)]
def r_y_5:List CI:=[mv 11 (t 5),mv 12 (t 0),le 13 (t 12),bi .lss 14 (t 11) (t 13)]
def r_y_6:List CI:=[mv 17 (t 0),mv 18 (t 5),ia 19 1 17 (t 18),l 20 19,mv 21 (t 1),mv 22 (t 5),ia 23 1 21 (t 22),l 24 23,bi .neq 25 (t 20) (t 24)]
def r_y_7:List CI:=[mv 4 ff]
def r_y_8:List CI:=[mv 15 (t 5),bi .add 16 (t 15) (i 1),mv 5 (t 16)]
def c_y_9:CC:=(.seq (.seq (.ops r_y_5) (bs [0,1,5,14]) (.cond (t 14) .skip (.exit 0))) (bs [0,1,5]) (.seq (.block 2 (.seq (.draw r_y_6) (bs [0,1,5,25]) (.cond (t 25) (.seq (.ops r_y_7) (bs [4]) .ret) .skip))) (bs [0,1,5]) (.ops r_y_8)))
def r_y_10:List CI:=[mv 4 tt]
def c_y:CC:=(.seq (.ops r_y_1) (bs [0,1]) (.seq (.seq (.ops r_y_2) (bs [0,1,10]) (.cond (t 10) (.seq (.ops r_y_3) (bs [4]) .ret) .skip)) (bs [0,1]) (.seq (.seq (.ops r_y_4) (bs [0,1,5]) (.block 0 (.loop (bs [0,1,5]) c_y_9))) [] (.seq (.ops r_y_10) (bs [4]) .ret))))
def f_y:ze:=⟨26,[.tmp (bits 4)],c_y,none,none⟩
def r_t_1:List CI:=[mv 4 ff]
def r_t_2:List CI:=[mv 6 (t 0),le 7 (t 6),mv 8 (t 1),le 9 (t 8),bi .neq 10 (t 7) (t 9)]
def r_t_3:List CI:=[mv 4 ff]
def r_t_4:List CI:=[mv 5 (i 0)]
def r_t_5:List CI:=[mv 11 (t 5),mv 12 (t 0),le 13 (t 12),bi .lss 14 (t 11) (t 13)]
def r_t_6:List CI:=[mv 17 (t 0),mv 18 (t 5),ia 19 1 17 (t 18),fa 20 0 19,l 21 20,mv 22 (t 1),mv 23 (t 5),ia 24 1 22 (t 23),fa 25 0 24,l 26 25,ca 27 n_v [(t 21),(t 26)],lo 1 (no 28 27)]
def r_t_7:List CI:=[mv 4 ff]
def r_t_8:List CI:=[mv 15 (t 5),bi .add 16 (t 15) (i 1),mv 5 (t 16)]
def c_t_9:CC:=(.seq (.seq (.ops r_t_5) (bs [0,1,5,14]) (.cond (t 14) .skip (.exit 0))) (bs [0,1,5]) (.seq (.block 2 (.seq (.draw r_t_6) (bs [0,1,5,28]) (.cond (t 28) (.seq (.ops r_t_7) (bs [4]) .ret) .skip))) (bs [0,1,5]) (.ops r_t_8)))
def r_t_10:List CI:=[mv 4 tt]
def c_t:CC:=(.seq (.ops r_t_1) (bs [0,1]) (.seq (.seq (.ops r_t_2) (bs [0,1,10]) (.cond (t 10) (.seq (.ops r_t_3) (bs [4]) .ret) .skip)) (bs [0,1]) (.seq (.seq (.ops r_t_4) (bs [0,1,5]) (.block 0 (.loop (bs [0,1,5]) c_t_9))) [] (.seq (.ops r_t_10) (bs [4]) .ret))))
def f_t:ze:=⟨29,[.tmp (bits 4)],c_t,none,none⟩
def r_0_1:List CI:=[mv 4 (i 0)]
def r_0_2:List CI:=[mv 6 (t 0),mv 7 (t 0),ca 8 n_u [(t 7)],ca 9 n_ba [(t 6),(t 8)],oo 5 (.alloc [(iI 0),(iI 0)]),st 2 5 (t 9)]
def r_0_3:List CI:=[fa 10 0 5,l 11 10,mv 12 (t 1),bi .neq 13 (t 11) (t 12)]
def r_0_4:List CI:=[oo 14 (.build [] []),oo 15 (.mkI 192 (t 14)),on (.panic (t 15))]
def r_0_5:List CI:=[fa 16 1 5,l 17 16,mv 4 (t 17)]
def c_0:CC:=(.seq (.ops r_0_1) (bs [0,1]) (.seq (.ops r_0_2) (bs [1,5]) (.seq (.seq (.ops r_0_3) (bs [5,13]) (.cond (t 13) (.ops r_0_4) .skip)) (bs [5]) (.seq (.ops r_0_5) (bs [4]) .ret))))
def f_0:ze:=⟨18,[.tmp (bits 4)],c_0,none,none⟩
def r_z_1:List CI:=[mv 2 (.c (.slice none 0 0))]
def r_z_2:List CI:=[mv 3 (.c (.slice none 0 0))]
def r_z_3:List CI:=[mv 5 (t 0),ca 6 n_V [(t 5)],mv 7 (i 0)]
def r_z_4:List CI:=[bi .lss 8 (t 7) (t 6)]
def r_z_5:List CI:=[mv 9 (t 0),ca 10 n_u [(t 9)],mv 4 (t 10)]
def r_z_6:List CI:=[mv 20 (t 4),bi .and 21 (t 20) (i 1),bi .eql 22 (t 21) (i 1),mv 19 (t 22)]
def r_z_7:List CI:=[mv 23 (t 3),mv 24 (t 0),mv 25 (t 4),bi .shr 26 (t 25) (.c (.int .u64 1)),ca 27 n_ba [(t 24),(t 26)],oo 28 (.buildSlice 1 2 [(iI 0),(iI 0)] [(0,(t 27))]),ap 29 2 16 (t 23) (t 28),mv 3 (t 29)]
def r_z_8:List CI:=[mv 31 (t 4),bi .and 32 (t 31) (i 2),bi .eql 33 (t 32) (i 0),mv 30 (t 33)]
def r_z_9:List CI:=[mv 34 (t 3),mv 35 (t 4),bi .shr 36 (t 35) (.c (.int .u64 2)),oo 37 (.build [(iI 0),(iI 0)] [(0,1,(i 1)),(1,1,(t 36))]),oo 38 (.buildSlice 1 2 [(iI 0),(iI 0)] [(0,(t 37))]),ap 39 2 16 (t 34) (t 38),mv 3 (t 39)]
def r_z_10:List CI:=[mv 11 (t 3),mv 12 (t 4),bi .shr 13 (t 12) (.c (.int .u64 2)),oo 14 (.un .neg (t 13)),bi .sub 15 (t 14) (i 1),oo 16 (.build [(iI 0),(iI 0)] [(0,1,(i 1)),(1,1,(t 15))]),oo 17 (.buildSlice 1 2 [(iI 0),(iI 0)] [(0,(t 16))]),ap 18 2 16 (t 11) (t 17),mv 3 (t 18)]
def r_z_11:List CI:=[bi .add 40 (t 7) (i 1),mv 7 (t 40)]
def c_z_12:CC:=(.seq (.ops r_z_4) (bs [0,3,6,7,8]) (.seq (.cond (t 8) .skip (.exit 0)) (bs [0,3,6,7]) (.seq (.block 2 (.seq (.ops r_z_5) (bs [0,3,4,6,7]) (.block 4 (.seq (.ops r_z_6) (bs [0,3,4,6,7,19]) (.cond (t 19) (.ops r_z_7) (.seq (.ops r_z_8) (bs [0,3,4,6,7,30]) (.cond (t 30) (.ops r_z_9) (.ops r_z_10)))))))) (bs [0,3,6,7]) (.ops r_z_11))))
def r_z_13:List CI:=[mv 41 (t 3),mv 2 (t 41)]
def c_z:CC:=(.seq (.ops r_z_1) (bs [0]) (.seq (.ops r_z_2) (bs [0,3]) (.seq (.seq (.ops r_z_3) (bs [0,3,6,7]) (.block 0 (.loop (bs [0,3,6,7]) c_z_12))) (bs [3]) (.seq (.ops r_z_13) (bs [2]) .ret))))
def f_z:ze:=⟨42,[.tmp (bits 2)],c_z,none,none⟩
def r_H_1:List CI:=[mv 2 (.c (.pointer none))]
def r_H_2:List CI:=[mv 7 (t 0),oo 8 (.build [(.string ⟨#[]⟩),(iI 0),(.slice none 0 0),(.bool false)] [(0,1,(t 7)),(1,1,(i 1))]),bx 9 (t 8),mv 3 (t 9)]
def r_H_3:List CI:=[mv 10 (t 3),ca 11 n_w [(t 10)],mv 4 (t 11)]
def r_H_4:List CI:=[mv 5 (i 0)]
def r_H_5:List CI:=[mv 12 (t 5),mv 13 (t 4),bi .lss 14 (t 12) (t 13)]
def r_H_6:List CI:=[mv 17 (t 3),ca 18 n_e [(t 17)],mv 6 (t 18)]
def r_H_7:List CI:=[mv 25 (t 3),ca 26 n_e [(t 25)],mv 20 (t 3),nc 21 20,fa 22 2 21,l 23 22,mv 24 (t 6),lo 1 (oo 27 (.build [(iI 0),(iI 0)] [(0,1,(t 24)),(1,1,(t 26))])),lo 1 (oo 28 (.buildSlice 1 2 [(iI 0),(iI 0)] [(0,(t 27))])),lo 1 (ap 29 2 16 (t 23) (t 28)),mv 19 (t 3),lo 2 (nc 30 19),lo 2 (fa 31 2 30),lo 2 (st 1 31 (t 29))]
def r_H_8:List CI:=[mv 15 (t 5),bi .add 16 (t 15) (i 1),mv 5 (t 16)]
def c_H_9:CC:=(.seq (.seq (.ops r_H_5) (bs [3,4,5,14]) (.cond (t 14) .skip (.exit 0))) (bs [3,4,5]) (.seq (.block 2 (.seq (.ops r_H_6) (bs [3,4,5,6]) (.draw r_H_7))) (bs [3,4,5]) (.ops r_H_8)))
def r_H_10:List CI:=[mv 32 (t 3),mv 2 (t 32)]
def c_H:CC:=(.seq (.ops r_H_1) (bs [0]) (.seq (.ops r_H_2) (bs [3]) (.seq (.ops r_H_3) (bs [3,4]) (.seq (.seq (.ops r_H_4) (bs [3,4,5]) (.block 0 (.loop (bs [3,4,5]) c_H_9))) (bs [3]) (.seq (.ops r_H_10) (bs [2]) .ret)))))
def f_H:ze:=⟨33,[.tmp (bits 2)],c_H,none,none⟩
def r_C_1:List CI:=[mv 4 (i 0)]
def r_C_2:List CI:=[mv 6 (t 0),ca 7 n_e [(t 6)],mv 5 (t 7)]
def r_C_3:List CI:=[mv 8 (t 5),mv 9 (t 0),nc 10 9,fa 11 2 10,l 12 11,le 13 (t 12),bi .geq 14 (t 8) (t 13),mv 15 (t 14),gu 15 false (mv 16 (t 0)),gu 15 false (nc 17 16),gu 15 false (fa 18 2 17),gu 15 false (l 19 18),gu 15 false (mv 20 (t 5)),gu 15 false (ia 21 2 19 (t 20)),gu 15 false (fa 22 0 21),gu 15 false (l 23 22),gu 15 false (mv 24 (t 1)),gu 15 false (bi .neq 25 (t 23) (t 24)),pk 26 (t 15) tt (t 25)]
def r_C_4:List CI:=[mv 27 (t 0),nc 28 27,fa 29 3 28,st 1 29 tt]
def r_C_5:List CI:=[mv 4 (i 0)]
def r_C_6:List CI:=[mv 30 (t 0),nc 31 30,fa 32 2 31,l 33 32,mv 34 (t 5),ia 35 2 33 (t 34),fa 36 1 35,l 37 36,mv 4 (t 37)]
def c_C:CC:=(.seq (.ops r_C_1) (bs [0,1]) (.seq (.ops r_C_2) (bs [0,1,5]) (.seq (.seq (.ops r_C_3) (bs [0,5,26]) (.cond (t 26) (.seq (.ops r_C_4) [] (.seq (.ops r_C_5) (bs [4]) .ret)) .skip)) (bs [0,5]) (.seq (.ops r_C_6) (bs [4]) .ret))))
def f_C:ze:=⟨38,[.tmp (bits 4)],c_C,none,none⟩
def r_g_1:List CI:=[mv 2 (.c (.slice none 0 0))]
def r_g_2:List CI:=[mv 3 (.c (.slice none 0 0))]
def r_g_3:List CI:=[mv 7 (t 0),ca 8 n_w [(t 7)],mv 4 (t 8)]
def r_g_4:List CI:=[mv 5 (i 0)]
def r_g_5:List CI:=[mv 9 (t 5),mv 10 (t 4),bi .lss 11 (t 9) (t 10)]
def r_g_6:List CI:=[mv 14 (t 0),ca 15 n_e [(t 14)],mv 6 (t 15)]
def r_g_7:List CI:=[mv 16 (t 6),bi .rem 17 (t 16) (i 2),bi .eql 18 (t 17) (i 1)]
def r_g_8:List CI:=[mv 19 (t 6),bi .quo 20 (t 19) (i 2),mv 21 (t 0),nc 22 21,fa 23 2 22,l 24 23,le 25 (t 24),bi .geq 26 (t 20) (t 25)]
def r_g_9:List CI:=[mv 27 (t 0),nc 28 27,fa 29 3 28,st 1 29 tt]
def r_g_10:List CI:=[mv 2 (.c (.slice none 0 0))]
def r_g_11:List CI:=[mv 30 (t 3),mv 31 (t 0),nc 32 31,fa 33 2 32,l 34 33,mv 35 (t 6),bi .quo 36 (t 35) (i 2),ia 37 2 34 (t 36),ln 38 2 37,oo 39 (.buildSlice 1 2 [(iI 0),(iI 0)] [(0,(t 38))]),ap 40 2 16 (t 30) (t 39),mv 3 (t 40)]
def r_g_12:List CI:=[mv 41 (t 6),bi .rem 42 (t 41) (i 4),bi .eql 43 (t 42) (i 0)]
def r_g_13:List CI:=[mv 44 (t 3),mv 45 (t 6),bi .quo 46 (t 45) (i 4),oo 47 (.build [(iI 0),(iI 0)] [(0,1,(i 1)),(1,1,(t 46))]),oo 48 (.buildSlice 1 2 [(iI 0),(iI 0)] [(0,(t 47))]),ap 49 2 16 (t 44) (t 48),mv 3 (t 49)]
def r_g_14:List CI:=[mv 50 (t 3),mv 51 (t 6),bi .quo 52 (t 51) (i 4),oo 53 (.un .neg (t 52)),bi .sub 54 (t 53) (i 1),oo 55 (.build [(iI 0),(iI 0)] [(0,1,(i 1)),(1,1,(t 54))]),oo 56 (.buildSlice 1 2 [(iI 0),(iI 0)] [(0,(t 55))]),ap 57 2 16 (t 50) (t 56),mv 3 (t 57)]
def r_g_15:List CI:=[mv 12 (t 5),bi .add 13 (t 12) (i 1),mv 5 (t 13)]
def c_g_16:CC:=(.seq (.seq (.ops r_g_5) (bs [0,3,4,5,11]) (.cond (t 11) .skip (.exit 0))) (bs [0,3,4,5]) (.seq (.block 2 (.seq (.ops r_g_6) (bs [0,3,4,5,6]) (.seq (.ops r_g_7) (bs [0,3,4,5,6,18]) (.cond (t 18) (.seq (.seq (.ops r_g_8) (bs [0,3,4,5,6,26]) (.cond (t 26) (.seq (.ops r_g_9) [] (.seq (.ops r_g_10) (bs [2]) .ret)) .skip)) (bs [0,3,4,5,6]) (.ops r_g_11)) (.seq (.ops r_g_12) (bs [0,3,4,5,6,43]) (.cond (t 43) (.ops r_g_13) (.ops r_g_14))))))) (bs [0,3,4,5]) (.ops r_g_15)))
def r_g_17:List CI:=[mv 58 (t 3),mv 2 (t 58)]
def c_g:CC:=(.seq (.ops r_g_1) (bs [0]) (.seq (.ops r_g_2) (bs [0,3]) (.seq (.ops r_g_3) (bs [0,3,4]) (.seq (.seq (.ops r_g_4) (bs [0,3,4,5]) (.block 0 (.loop (bs [0,3,4,5]) c_g_16))) (bs [3]) (.seq (.ops r_g_17) (bs [2]) .ret)))))
def f_g:ze:=⟨59,[.tmp (bits 2)],c_g,none,none⟩
def r_bj_1:List CI:=[bx 1 (t 0),mv 2 ff]
def r_bj_2:List CI:=[fa 3 0 1,l 4 3]
def r_bj_3:List CI:=[bi .eql 6 (t 4) (i 2),mv 5 (t 6)]
def r_bj_4:List CI:=[fa 7 1 1,l 8 7,ca 9 n_bm [(t 8),(i 12)],mv 2 (t 9)]
def r_bj_5:List CI:=[bi .eql 11 (t 4) (i 3),mv 10 (t 11)]
def r_bj_6:List CI:=[fa 12 1 1,l 13 12,ca 14 n_bm [(t 13),(i 60)],mv 2 (t 14)]
def r_bj_7:List CI:=[fa 15 0 1,l 16 15,bi .eql 17 (t 16) (i 4),mv 18 (t 17),gu 18 true (fa 19 1 1),gu 18 true (l 20 19),gu 18 true (ca 21 n_bm [(t 20),(i 24)]),pk 22 (t 18) (t 21) ff,mv 2 (t 22)]
def c_bj:CC:=(.seq (.ops r_bj_1) (bs [1]) (.seq (.seq (.ops r_bj_2) (bs [1,4]) (.block 0 (.seq (.ops r_bj_3) (bs [1,4,5]) (.cond (t 5) (.seq (.ops r_bj_4) (bs [2]) .ret) (.seq (.ops r_bj_5) (bs [1,10]) (.cond (t 10) (.seq (.ops r_bj_6) (bs [2]) .ret) .skip)))))) (bs [1]) (.seq (.ops r_bj_7) (bs [2]) .ret)))
def f_bj:ze:=⟨23,[.tmp (bits 2)],c_bj,none,none⟩
def r_bo_1:List CI:=[mv 2 (.c (.string ⟨#[]⟩))]
def r_bo_2:List CI:=[mv 3 (t 0),mv 4 (t 0),ca 5 n_W [(t 4)],ap 6 1 1 (t 3) (t 5),oo 7 (.b2s (t 6)),mv 2 (t 7)]
def c_bo:CC:=(.seq (.ops r_bo_1) (bs [0]) (.seq (.ops r_bo_2) (bs [2]) .ret))
def f_bo:ze:=⟨8,[.tmp (bits 2)],c_bo,none,none⟩
def r_be_1:List CI:=[mv 4 (.c (.slice none 0 0))]
def r_be_2:List CI:=[mv 8 (t 0),oo 9 (.buildSlice 1 1 [(.int .u8 0)] [(0,(t 8))]),mv 10 (t 1),le 11 (t 10),ca 12 n_bb [(t 9),(t 11)],mv 5 (t 12)]
def r_be_3:List CI:=[mv 13 (t 1),le 14 (t 13),mv 15 (i 0)]
def r_be_4:List CI:=[bi .lss 16 (t 15) (t 14)]
def r_be_5:List CI:=[ia 17 2 13 (t 15),ln 18 2 17,oo 7 (.alloc [(iI 0),(iI 0)]),st 2 7 (t 18)]
def r_be_6:List CI:=[mv 19 (t 5),fa 20 0 7,l 21 20,ca 22 n_bb [(t 19),(t 21)],fa 23 1 7,l 24 23,lo 1 (ca 25 n_bb [(t 22),(t 24)]),lo 2 (mv 5 (t 25))]
def r_be_7:List CI:=[bi .add 26 (t 15) (i 1),mv 15 (t 26)]
def c_be_8:CC:=(.seq (.ops r_be_4) (bs [5,13,14,15,16]) (.seq (.cond (t 16) .skip (.exit 0)) (bs [5,13,14,15]) (.seq (.block 2 (.seq (.ops r_be_5) (bs [5,7,13,14,15]) (.draw r_be_6))) (bs [5,13,14,15]) (.ops r_be_7))))
def r_be_9:List CI:=[mv 27 (t 5),mv 4 (t 27)]
def c_be:CC:=(.seq (.ops r_be_1) (bs [0,1]) (.seq (.ops r_be_2) (bs [1,5]) (.seq (.seq (.ops r_be_3) (bs [5,13,14,15]) (.block 0 (.loop (bs [5,13,14,15]) c_be_8))) (bs [5]) (.seq (.ops r_be_9) (bs [4]) .ret))))
def f_be:ze:=⟨28,[.tmp (bits 4)],c_be,none,none⟩
def r_K_1:List CI:=[mv 2 (.c (.string ⟨#[]⟩))]
def r_K_2:List CI:=[mv 3 (.c (.slice none 0 0))]
def r_K_3:List CI:=[mv 4 (i 0)]
def r_K_4:List CI:=[mv 5 (t 4),mv 6 (t 0),le 7 (t 6),bi .lss 8 (t 5) (t 7)]
def r_K_5:List CI:=[mv 11 (t 3),mv 12 (t 0),mv 13 (t 4),ia 14 1 12 (t 13),l 15 14,ca 16 n_S [(t 15)],ap 17 1 1 (t 11) (t 16),mv 3 (t 17)]
def r_K_6:List CI:=[mv 9 (t 4),bi .add 10 (t 9) (i 1),mv 4 (t 10)]
def c_K_7:CC:=(.seq (.seq (.ops r_K_4) (bs [0,3,4,8]) (.cond (t 8) .skip (.exit 0))) (bs [0,3,4]) (.seq (.block 2 (.ops r_K_5)) (bs [0,3,4]) (.ops r_K_6)))
def r_K_8:List CI:=[mv 18 (t 3),oo 19 (.b2s (t 18)),mv 2 (t 19)]
def c_K:CC:=(.seq (.ops r_K_1) (bs [0]) (.seq (.ops r_K_2) (bs [0,3]) (.seq (.seq (.ops r_K_3) (bs [0,3,4]) (.block 0 (.loop (bs [0,3,4]) c_K_7))) (bs [3]) (.seq (.ops r_K_8) (bs [2]) .ret))))
def f_K:ze:=⟨20,[.tmp (bits 2)],c_K,none,none⟩
def r_bm_1:List CI:=[mv 4 ff]
def r_bm_2:List CI:=[mv 5 (t 0),bi .geq 6 (t 5) (i 0),mv 7 (t 6),gu 7 true (mv 8 (t 0)),gu 7 true (mv 9 (t 1)),gu 7 true (bi .lss 10 (t 8) (t 9)),pk 11 (t 7) (t 10) ff,mv 4 (t 11)]
def c_bm:CC:=(.seq (.ops r_bm_1) (bs [0,1]) (.seq (.ops r_bm_2) (bs [4]) .ret))
def f_bm:ze:=⟨12,[.tmp (bits 4)],c_bm,none,none⟩
def r_2_1:List CI:=[mv 4 ff]
def r_2_2:List CI:=[mv 5 (t 0),mv 6 (t 1),ca 7 n_E [(t 5),(t 6)],bi .geq 8 (t 7) (i 0),mv 4 (t 8)]
def c_2:CC:=(.seq (.ops r_2_1) (bs [0,1]) (.seq (.ops r_2_2) (bs [4]) .ret))
def f_2:ze:=⟨9,[.tmp (bits 4)],c_2,none,none⟩
def r_5_1:List CI:=[mv 2 ff]
def r_5_2:List CI:=[oo 6 (.makeMap),mv 3 (t 6)]
def r_5_3:List CI:=[mv 7 (t 0),le 8 (t 7),mv 9 (i 0)]
def r_5_4:List CI:=[bi .lss 10 (t 9) (t 8)]
def r_5_5:List CI:=[ia 11 1 7 (t 9),l 12 11,mv 5 (t 12)]
def r_5_6:List CI:=[mv 13 (t 3),mv 14 (t 5),oo 15 (.lookup .int (.bool false) false (t 13) (t 14))]
def r_5_7:List CI:=[mv 2 ff]
def r_5_8:List CI:=[mv 16 (t 3),mv 17 (t 5),on (.mapUpdate .int (t 16) (t 17) tt)]
def r_5_9:List CI:=[bi .add 18 (t 9) (i 1),mv 9 (t 18)]
def c_5_10:CC:=(.seq (.ops r_5_4) (bs [3,7,8,9,10]) (.seq (.cond (t 10) .skip (.exit 0)) (bs [3,7,8,9]) (.seq (.block 2 (.seq (.ops r_5_5) (bs [3,5,7,8,9]) (.seq (.seq (.ops r_5_6) (bs [3,5,7,8,9,15]) (.cond (t 15) (.seq (.ops r_5_7) (bs [2]) .ret) .skip)) (bs [3,5,7,8,9]) (.ops r_5_8)))) (bs [3,7,8,9]) (.ops r_5_9))))
def r_5_11:List CI:=[mv 2 tt]
def c_5:CC:=(.seq (.ops r_5_1) (bs [0]) (.seq (.ops r_5_2) (bs [0,3]) (.seq (.seq (.ops r_5_3) (bs [3,7,8,9]) (.block 0 (.loop (bs [3,7,8,9]) c_5_10))) [] (.seq (.ops r_5_11) (bs [2]) .ret))))
def f_5:ze:=⟨19,[.tmp (bits 2)],c_5,none,none⟩
def r_bl_1:List CI:=[bx 3 (t 1),mv 4 ff]
def r_bl_2:List CI:=[mv 5 (t 0),oo 6 (.makeFunc (.func n_by) [] [(t 3)]),ca 7 n_Z [(t 5),(t 6)],no 8 7,mv 4 (t 8)]
def c_bl:CC:=(.seq (.ops r_bl_1) (bs [0,3]) (.seq (.ops r_bl_2) (bs [4]) .ret))
def f_bl:ze:=⟨9,[.tmp (bits 4)],c_bl,none,none⟩
def r_bA_1:List CI:=[mv 2 ff]
def r_bA_2:List CI:=[mv 3 (t 0),ca 4 n_bm [(t 3),(i 24)],mv 2 (t 4)]
def c_bA:CC:=(.seq (.ops r_bA_1) (bs [0]) (.seq (.ops r_bA_2) (bs [2]) .ret))
def f_bA:ze:=⟨5,[.tmp (bits 2)],c_bA,none,none⟩
def r_p_1:List CI:=[mv 4 (.c (.slice none 0 0))]
def r_p_2:List CI:=[mv 5 (.c (.slice none 0 0))]
def r_p_3:List CI:=[mv 8 (t 0),le 9 (t 8),mv 10 (i 0)]
def r_p_4:List CI:=[bi .lss 11 (t 10) (t 9)]
def r_p_5:List CI:=[ia 12 2 8 (t 10),ln 13 2 12,oo 7 (.alloc [(iI 0),(.slice none 0 0)]),st 2 7 (t 13)]
def r_p_6:List CI:=[mv 14 (t 5),mv 15 (t 1),ln 16 2 7,oo 17 (.call (t 15) [(t 16)]),oo 18 (.buildSlice 1 1 [(iI 0)] [(0,(t 17))]),ap 19 1 8 (t 14) (t 18),mv 5 (t 19)]
def r_p_7:List CI:=[bi .add 20 (t 10) (i 1),mv 10 (t 20)]
def c_p_8:CC:=(.seq (.ops r_p_4) (bs [1,5,8,9,10,11]) (.seq (.cond (t 11) .skip (.exit 0)) (bs [1,5,8,9,10]) (.seq (.block 2 (.seq (.ops r_p_5) (bs [1,5,7,8,9,10]) (.ops r_p_6))) (bs [1,5,8,9,10]) (.ops r_p_7))))
def r_p_9:List CI:=[mv 21 (t 5),mv 4 (t 21)]
def c_p:CC:=(.seq (.ops r_p_1) (bs [0,1]) (.seq (.ops r_p_2) (bs [0,1,5]) (.seq (.seq (.ops r_p_3) (bs [1,5,8,9,10]) (.block 0 (.loop (bs [1,5,8,9,10]) c_p_8))) (bs [5]) (.seq (.ops r_p_9) (bs [4]) .ret))))
def f_p:ze:=⟨22,[.tmp (bits 4)],c_p,none,none⟩
def r_bB_1:List CI:=[bx 1 (t 0),mv 2 (i 0)]
def r_bB_2:List CI:=[fa 3 0 1,l 4 3,mv 2 (t 4)]
def c_bB:CC:=(.seq (.ops r_bB_1) (bs [1]) (.seq (.ops r_bB_2) (bs [2]) .ret))
def f_bB:ze:=⟨5,[.tmp (bits 2)],c_bB,none,none⟩
def r_bz_1:List CI:=[bx 1 (t 0),mv 2 ff]
def r_bz_2:List CI:=[fa 3 0 1,l 4 3,ca 5 n_bm [(t 4),(i 60)],mv 6 (t 5),gu 6 true (fa 7 1 1),gu 6 true (l 8 7),gu 6 true (le 9 (t 8)),gu 6 true (bi .geq 10 (t 9) (i 1)),pk 11 (t 6) (t 10) ff,mv 12 (t 11),gu 12 true (fa 13 1 1),gu 12 true (l 14 13),gu 12 true (le 15 (t 14)),gu 12 true (bi .leq 16 (t 15) (i 12)),pk 17 (t 12) (t 16) ff,mv 18 (t 17),gu 18 true (fa 19 1 1),gu 18 true (l 20 19),gu 18 true (ca 21 n_bd [(t 20),(fc n_bn)]),pk 22 (t 18) (t 21) ff,mv 2 (t 22)]
def c_bz:CC:=(.seq (.ops r_bz_1) (bs [1]) (.seq (.ops r_bz_2) (bs [2]) .ret))
def f_bz:ze:=⟨23,[.tmp (bits 2)],c_bz,none,none⟩
def r_bd_1:List CI:=[bx 3 (t 1),mv 4 ff]
def r_bd_2:List CI:=[mv 5 (t 0),oo 6 (.makeFunc (.func n_bu) [] [(t 3)]),ca 7 n_M [(t 5),(t 6)],no 8 7,mv 4 (t 8)]
def c_bd:CC:=(.seq (.ops r_bd_1) (bs [0,3]) (.seq (.ops r_bd_2) (bs [4]) .ret))
def f_bd:ze:=⟨9,[.tmp (bits 4)],c_bd,none,none⟩
def r_bn_1:List CI:=[bx 1 (t 0),mv 2 ff]
def r_bn_2:List CI:=[fa 3 0 1,l 4 3,le 5 (t 4),bi .leq 6 (t 5) (i 3),mv 7 (t 6),gu 7 true (fa 8 0 1),gu 7 true (l 9 8),gu 7 true (ca 10 n_8 [(t 9),(fc n_bp)]),pk 11 (t 7) (t 10) ff,mv 2 (t 11)]
def c_bn:CC:=(.seq (.ops r_bn_1) (bs [1]) (.seq (.ops r_bn_2) (bs [2]) .ret))
def f_bn:ze:=⟨12,[.tmp (bits 2)],c_bn,none,none⟩
def r_bt_1:List CI:=[bx 3 (t 0),mv 4 ff]
def r_bt_2:List CI:=[fa 6 0 3,l 7 6,l 8 1,bi .gtr 9 (t 7) (t 8),mv 10 (t 9),gu 10 true (fa 11 0 3),gu 10 true (l 12 11),gu 10 true (bi .lss 13 (t 12) (i 40)),pk 14 (t 10) (t 13) ff,mv 5 (t 14)]
def r_bt_3:List CI:=[fa 15 0 3,l 16 15,st 1 1 (t 16)]
def r_bt_4:List CI:=[mv 17 (t 5),mv 18 (t 17),gu 18 true (fa 19 0 2),gu 18 true (l 20 19),gu 18 true (fa 21 1 3),gu 18 true (fa 22 0 21),gu 18 true (l 23 22),gu 18 true (ca 24 n_2 [(t 20),(t 23)]),pk 25 (t 18) (t 24) ff,mv 26 (t 25),gu 26 true (fa 27 1 3),gu 26 true (fa 28 1 27),gu 26 true (l 29 28),gu 26 true (ca 30 n_bm [(t 29),(i 60)]),pk 31 (t 26) (t 30) ff,mv 32 (t 31),gu 32 true (fa 33 1 3),gu 32 true (fa 34 2 33),gu 32 true (l 35 34),gu 32 true (ca 36 n_8 [(t 35),(fc n_bp)]),pk 37 (t 32) (t 36) ff,mv 4 (t 37)]
def c_bt:CC:=(.seq (.ops r_bt_1) (bs [1,2,3]) (.seq (.ops r_bt_2) (bs [1,2,3,5]) (.seq (.ops r_bt_3) (bs [2,3,5]) (.seq (.ops r_bt_4) (bs [4]) .ret))))
def f_bt:ze:=⟨38,[.tmp (bits 4)],c_bt,none,none⟩
def r_8_1:List CI:=[bx 3 (t 1),mv 4 ff]
def r_8_2:List CI:=[mv 5 (t 0),oo 6 (.makeFunc (.func n_bw) [] [(t 3)]),ca 7 n_L [(t 5),(t 6)],no 8 7,mv 4 (t 8)]
def c_8:CC:=(.seq (.ops r_8_1) (bs [0,3]) (.seq (.ops r_8_2) (bs [4]) .ret))
def f_8:ze:=⟨9,[.tmp (bits 4)],c_8,none,none⟩
def r_bp_1:List CI:=[bx 1 (t 0),mv 2 ff]
def r_bp_2:List CI:=[ln 3 2 1,ca 4 n_bj [(t 3)],mv 5 (t 4),gu 5 false (fa 6 0 1),gu 5 false (l 7 6),gu 5 false (bi .eql 8 (t 7) (i 1)),gu 5 false (mv 9 (t 8)),gu 9 true (fa 10 1 1),gu 9 true (l 11 10),gu 9 true (bi .geq 12 (t 11) (i (-1000000000))),gu 5 false (pk 13 (t 9) (t 12) ff),gu 5 false (mv 14 (t 13)),gu 14 true (fa 15 1 1),gu 14 true (l 16 15),gu 14 true (bi .leq 17 (t 16) (i 1000000000)),gu 5 false (pk 18 (t 14) (t 17) ff),pk 19 (t 5) tt (t 18),mv 2 (t 19)]
def c_bp:CC:=(.seq (.ops r_bp_1) (bs [1]) (.seq (.ops r_bp_2) (bs [2]) .ret))
def f_bp:ze:=⟨20,[.tmp (bits 2)],c_bp,none,none⟩
def r_6_1:List CI:=[bx 3 (t 1),mv 4 ff]
def r_6_2:List CI:=[mv 5 (t 0),oo 6 (.makeFunc (.func n_br) [] [(t 3)]),ca 7 n_A [(t 5),(t 6)],no 8 7,mv 4 (t 8)]
def c_6:CC:=(.seq (.ops r_6_1) (bs [0,3]) (.seq (.ops r_6_2) (bs [4]) .ret))
def f_6:ze:=⟨9,[.tmp (bits 4)],c_6,none,none⟩
def r_7_1:List CI:=[bx 3 (t 1),mv 4 ff]
def r_7_2:List CI:=[mv 5 (t 0),oo 6 (.makeFunc (.func n_bs) [] [(t 3)]),ca 7 n_D [(t 5),(t 6)],no 8 7,mv 4 (t 8)]
def c_7:CC:=(.seq (.ops r_7_1) (bs [0,3]) (.seq (.ops r_7_2) (bs [4]) .ret))
def f_7:ze:=⟨9,[.tmp (bits 4)],c_7,none,none⟩
def r_bq_1:List CI:=[mv 0 (.c (.pointer none))]
def r_bq_2:List CI:=[oo 1 (.makeMap),oo 2 (.build [(.slice none 0 0),(.map none)] [(1,1,(t 1))]),oo 3 (.build [(.slice none 0 0),(.map none),(.slice none 0 0)] [(0,2,(t 2))]),bx 4 (t 3),mv 0 (t 4)]
def c_bq:CC:=(.seq (.ops r_bq_1) [] (.seq (.ops r_bq_2) (bs [0]) .ret))
def f_bq:ze:=⟨5,[.tmp (bits 0)],c_bq,none,none⟩
def r_3_1:List CI:=[mv 4 (t 0),mv 5 (t 0),nc 6 5,fa 7 2 6,l 8 7,mv 9 (t 1),ca 10 n_bb [(t 8),(t 9)],nc 11 4,fa 12 2 11,st 1 12 (t 10)]
def c_3:CC:=(.ops r_3_1)
def f_3:ze:=⟨13,[],c_3,none,none⟩
def r_bi_1:List CI:=[mv 4 (t 0),mv 5 (t 0),nc 6 5,fa 7 0 6,mv 8 (t 1),oo 9 (.build [(iI 0),(iI 0)] [(0,1,(i 4)),(1,1,(t 8))]),ca 10 n_R [(t 7),(t 9)],ca 11 n_3 [(t 4),(t 10)]]
def c_bi:CC:=(.ops r_bi_1)
def f_bi:ze:=⟨12,[],c_bi,none,none⟩
def r_bh_1:List CI:=[mv 4 (t 0),mv 5 (t 0),nc 6 5,fa 7 0 6,mv 8 (t 1),oo 9 (.build [(iI 0),(iI 0)] [(0,1,(i 3)),(1,1,(t 8))]),ca 10 n_R [(t 7),(t 9)],ca 11 n_3 [(t 4),(t 10)]]
def c_bh:CC:=(.ops r_bh_1)
def f_bh:ze:=⟨12,[],c_bh,none,none⟩
def r_I_1:List CI:=[mv 6 (t 0),mv 7 (t 1),le 8 (t 7),ca 9 n_3 [(t 6),(t 8)]]
def r_I_2:List CI:=[mv 10 (t 1),le 11 (t 10),mv 12 (i 0)]
def r_I_3:List CI:=[bi .lss 13 (t 12) (t 11)]
def r_I_4:List CI:=[ia 14 2 10 (t 12),ln 15 2 14,oo 5 (.alloc [(iI 0),(iI 0)]),st 2 5 (t 15)]
def r_I_5:List CI:=[fa 25 0 5,l 26 25,bi .neq 27 (t 26) (i 1),mv 24 (t 27)]
def r_I_6:List CI:=[mv 29 (t 0),nc 30 29,fa 31 0 30,ln 32 2 5,ca 33 n_R [(t 31),(t 32)],mv 28 (t 0),lo 1 (bi .mul 34 (i 2) (t 33)),lo 1 (bi .add 35 (t 34) (i 1)),lo 1 (ca 36 n_3 [(t 28),(t 35)])]
def r_I_7:List CI:=[fa 38 1 5,l 39 38,bi .geq 40 (t 39) (i 0),mv 37 (t 40)]
def r_I_8:List CI:=[mv 41 (t 0),fa 42 1 5,l 43 42,bi .mul 44 (i 4) (t 43),ca 45 n_3 [(t 41),(t 44)]]
def r_I_9:List CI:=[mv 16 (t 0),fa 17 1 5,l 18 17,oo 19 (.un .neg (t 18)),bi .sub 20 (t 19) (i 1),bi .mul 21 (i 4) (t 20),bi .add 22 (t 21) (i 2),ca 23 n_3 [(t 16),(t 22)]]
def r_I_10:List CI:=[bi .add 46 (t 12) (i 1),mv 12 (t 46)]
def c_I_11:CC:=(.seq (.ops r_I_3) (bs [0,10,11,12,13]) (.seq (.cond (t 13) .skip (.exit 0)) (bs [0,10,11,12]) (.seq (.block 2 (.seq (.ops r_I_4) (bs [0,5,10,11,12]) (.block 4 (.seq (.ops r_I_5) (bs [0,5,10,11,12,24]) (.cond (t 24) (.draw r_I_6) (.seq (.ops r_I_7) (bs [0,5,10,11,12,37]) (.cond (t 37) (.ops r_I_8) (.ops r_I_9)))))))) (bs [0,10,11,12]) (.ops r_I_10))))
def c_I:CC:=(.seq (.ops r_I_1) (bs [0,1]) (.seq (.ops r_I_2) (bs [0,10,11,12]) (.block 0 (.loop (bs [0,10,11,12]) c_I_11))))
def f_I:ze:=⟨47,[],c_I,none,none⟩
def r_bk_1:List CI:=[mv 4 (.c (.string ⟨#[]⟩))]
def r_bk_2:List CI:=[mv 5 (t 1),mv 6 (t 0),nc 7 6,fa 8 0 7,fa 9 0 8,l 10 9,ca 11 n_be [(t 5),(t 10)],mv 12 (t 0),nc 13 12,fa 14 2 13,l 15 14,lo 1 (ap 16 1 1 (t 11) (t 15)),lo 2 (ca 17 n_bo [(t 16)]),lo 3 (mv 4 (t 17))]
def c_bk:CC:=(.seq (.ops r_bk_1) (bs [0,1]) (.seq (.draw r_bk_2) (bs [4]) .ret))
def f_bk:ze:=⟨18,[.tmp (bits 4)],c_bk,none,none⟩
def r_1_1:List CI:=[mv 6 ff]
def r_1_2:List CI:=[mv 7 (t 0),mv 8 (t 1),bi .geq 9 (t 7) (t 8),mv 10 (t 9),gu 10 true (mv 11 (t 0)),gu 10 true (mv 12 (t 2)),gu 10 true (bi .leq 13 (t 11) (t 12)),pk 14 (t 10) (t 13) ff,mv 6 (t 14)]
def c_1:CC:=(.seq (.ops r_1_1) (bs [0,1,2]) (.seq (.ops r_1_2) (bs [6]) .ret))
def f_1:ze:=⟨15,[.tmp (bits 6)],c_1,none,none⟩
def r_T_1:List CI:=[mv 4 ff]
def r_T_2:List CI:=[mv 5 (i 0)]
def r_T_3:List CI:=[mv 6 (t 5),mv 7 (t 0),le 8 (t 7),bi .lss 9 (t 6) (t 8)]
def r_T_4:List CI:=[mv 12 (t 0),mv 13 (t 5),ia 14 1 12 (t 13),l 15 14,mv 16 (t 1),bi .eql 17 (t 15) (t 16)]
def r_T_5:List CI:=[mv 4 tt]
def r_T_6:List CI:=[mv 10 (t 5),bi .add 11 (t 10) (i 1),mv 5 (t 11)]
def c_T_7:CC:=(.seq (.seq (.ops r_T_3) (bs [0,1,5,9]) (.cond (t 9) .skip (.exit 0))) (bs [0,1,5]) (.seq (.block 2 (.seq (.ops r_T_4) (bs [0,1,5,17]) (.cond (t 17) (.seq (.ops r_T_5) (bs [4]) .ret) .skip))) (bs [0,1,5]) (.ops r_T_6)))
def r_T_8:List CI:=[mv 4 ff]
def c_T:CC:=(.seq (.ops r_T_1) (bs [0,1]) (.seq (.seq (.ops r_T_2) (bs [0,1,5]) (.block 0 (.loop (bs [0,1,5]) c_T_7))) [] (.seq (.ops r_T_8) (bs [4]) .ret)))
def f_T:ze:=⟨18,[.tmp (bits 4)],c_T,none,none⟩
def r_G_1:List CI:=[bx 1 (t 0),mv 2 ff]
def r_G_2:List CI:=[fa 4 0 1,l 5 4,ca 6 n_1 [(t 5),(i 0),(i 59)],no 7 6,mv 8 (t 7),gu 8 false (fa 9 1 1),gu 8 false (l 10 9),gu 8 false (le 11 (t 10)),gu 8 false (ca 12 n_1 [(t 11),(i 1),(i 12)]),gu 8 false (no 13 12),pk 14 (t 8) tt (t 13)]
def r_G_3:List CI:=[mv 2 ff]
def r_G_4:List CI:=[mv 3 (i 0)]
def r_G_5:List CI:=[mv 15 (t 3),fa 16 1 1,l 17 16,le 18 (t 17),bi .lss 19 (t 15) (t 18)]
def r_G_6:List CI:=[fa 22 1 1,l 23 22,mv 24 (t 3),ia 25 1 23 (t 24),fa 26 0 25,l 27 26,le 28 (t 27),bi .gtr 29 (t 28) (i 3),mv 30 (t 29),gu 30 false (fa 31 1 1),gu 30 false (l 32 31),gu 30 false (mv 33 (t 3)),gu 30 false (ia 34 1 32 (t 33)),gu 30 false (fa 35 0 34),gu 30 false (l 36 35),gu 30 false (ca 37 n_Q [(t 36)]),gu 30 false (no 38 37),pk 39 (t 30) tt (t 38)]
def r_G_7:List CI:=[mv 2 ff]
def r_G_8:List CI:=[mv 20 (t 3),bi .add 21 (t 20) (i 1),mv 3 (t 21)]
def c_G_9:CC:=(.seq (.seq (.ops r_G_5) (bs [1,3,19]) (.cond (t 19) .skip (.exit 0))) (bs [1,3]) (.seq (.block 2 (.seq (.ops r_G_6) (bs [1,3,39]) (.cond (t 39) (.seq (.ops r_G_7) (bs [2]) .ret) .skip))) (bs [1,3]) (.ops r_G_8)))
def r_G_10:List CI:=[mv 2 tt]
def c_G:CC:=(.seq (.ops r_G_1) (bs [1]) (.seq (.seq (.ops r_G_2) (bs [1,14]) (.cond (t 14) (.seq (.ops r_G_3) (bs [2]) .ret) .skip)) (bs [1]) (.seq (.seq (.ops r_G_4) (bs [1,3]) (.block 0 (.loop (bs [1,3]) c_G_9))) [] (.seq (.ops r_G_10) (bs [2]) .ret))))
def f_G:ze:=⟨40,[.tmp (bits 2)],c_G,none,none⟩
def r_Q_1:List CI:=[mv 2 ff]
def r_Q_2:List CI:=[mv 3 (i 0)]
def r_Q_3:List CI:=[mv 4 (t 3),mv 5 (t 0),le 6 (t 5),bi .lss 7 (t 4) (t 6)]
def r_Q_4:List CI:=[mv 10 (t 0),mv 11 (t 3),ia 12 2 10 (t 11),ln 13 2 12,ca 14 n_O [(t 13)],no 15 14,mv 16 (t 15),gu 16 true (mv 17 (t 0)),gu 16 true (mv 18 (t 3)),gu 16 true (ia 19 2 17 (t 18)),gu 16 true (fa 20 0 19),gu 16 true (l 21 20),gu 16 true (bi .neq 22 (t 21) (i 1)),gu 16 true (mv 23 (t 22)),gu 23 false (mv 24 (t 0)),gu 23 false (mv 25 (t 3)),gu 23 false (ia 26 2 24 (t 25)),gu 23 false (fa 27 1 26),gu 23 false (l 28 27),gu 23 false (ca 29 n_1 [(t 28),(i (-1000000000)),(i 1000000000)]),gu 23 false (no 30 29),gu 16 true (pk 31 (t 23) tt (t 30)),pk 32 (t 16) (t 31) ff]
def r_Q_5:List CI:=[mv 2 ff]
def r_Q_6:List CI:=[mv 8 (t 3),bi .add 9 (t 8) (i 1),mv 3 (t 9)]
def c_Q_7:CC:=(.seq (.seq (.ops r_Q_3) (bs [0,3,7]) (.cond (t 7) .skip (.exit 0))) (bs [0,3]) (.seq (.block 2 (.seq (.ops r_Q_4) (bs [0,3,32]) (.cond (t 32) (.seq (.ops r_Q_5) (bs [2]) .ret) .skip))) (bs [0,3]) (.ops r_Q_6)))
def r_Q_8:List CI:=[mv 2 tt]
def c_Q:CC:=(.seq (.ops r_Q_1) (bs [0]) (.seq (.seq (.ops r_Q_2) (bs [0,3]) (.block 0 (.loop (bs [0,3]) c_Q_7))) [] (.seq (.ops r_Q_8) (bs [2]) .ret)))
def f_Q:ze:=⟨33,[.tmp (bits 2)],c_Q,none,none⟩
def r_P_1:List CI:=[mv 4 (t 0),mv 5 (t 0),nc 6 5,fa 7 1 6,l 8 7,mv 9 (t 1),oo 10 (.buildSlice 1 1 [(iI 0)] [(0,(t 9))]),ap 11 1 8 (t 8) (t 10),nc 12 4,fa 13 1 12,st 1 13 (t 11)]
def c_P:CC:=(.ops r_P_1)
def f_P:ze:=⟨14,[],c_P,none,none⟩
def r_o_1:List CI:=[bx 3 (t 1),mv 4 (i 0)]
def r_o_2:List CI:=[mv 5 (i 0)]
def r_o_3:List CI:=[mv 6 (t 5),mv 7 (t 0),nc 8 7,fa 9 0 8,l 10 9,le 11 (t 10),bi .lss 12 (t 6) (t 11)]
def r_o_4:List CI:=[mv 15 (t 0),nc 16 15,fa 17 0 16,l 18 17,mv 19 (t 5),ia 20 2 18 (t 19),ln 21 2 20,ln 22 2 3,oo 23 (.bin .eql (.leaves [0,1]) (t 21) (t 22))]
def r_o_5:List CI:=[mv 24 (t 5),mv 4 (t 24)]
def r_o_6:List CI:=[mv 13 (t 5),bi .add 14 (t 13) (i 1),mv 5 (t 14)]
def c_o_7:CC:=(.seq (.seq (.ops r_o_3) (bs [0,3,5,12]) (.cond (t 12) .skip (.exit 0))) (bs [0,3,5]) (.seq (.block 2 (.seq (.draw r_o_4) (bs [0,3,5,23]) (.cond (t 23) (.seq (.ops r_o_5) (bs [4]) .ret) .skip))) (bs [0,3,5]) (.ops r_o_6)))
def r_o_8:List CI:=[mv 26 (t 0),nc 27 26,fa 28 0 27,l 29 28,ln 30 2 3,oo 31 (.buildSlice 1 2 [(iI 0),(iI 0)] [(0,(t 30))]),ap 32 2 16 (t 29) (t 31),mv 25 (t 0),lo 1 (nc 33 25),lo 1 (fa 34 0 33),lo 1 (st 1 34 (t 32))]
def r_o_9:List CI:=[mv 35 (t 0),nc 36 35,fa 37 0 36,l 38 37,le 39 (t 38),bi .sub 40 (t 39) (i 1),mv 4 (t 40)]
def c_o:CC:=(.seq (.ops r_o_1) (bs [0,3]) (.seq (.seq (.ops r_o_2) (bs [0,3,5]) (.block 0 (.loop (bs [0,3,5]) c_o_7))) (bs [0,3]) (.seq (.draw r_o_8) (bs [0]) (.seq (.ops r_o_9) (bs [4]) .ret))))
def f_o:ze:=⟨41,[.tmp (bits 4)],c_o,none,none⟩
def r_bc_1:List CI:=[oo 2 (.alloc [(iI 0),(iI 0)])]
def r_bc_2:List CI:=[mv 3 (t 0),oo 4 (.build [(iI 0),(iI 0)] [(0,1,(i 4)),(1,1,(t 3))]),st 2 2 (t 4)]
def c_bc:CC:=(.seq (.ops r_bc_1) (bs [0,2]) (.seq (.ops r_bc_2) (bs [2]) .ret))
def f_bc:ze:=⟨5,[.cell (some 2) (bits 2)],c_bc,none,none⟩
def r_9_1:List CI:=[oo 2 (.alloc [(iI 0),(iI 0)])]
def r_9_2:List CI:=[mv 3 (t 0),oo 4 (.build [(iI 0),(iI 0)] [(0,1,(i 3)),(1,1,(t 3))]),st 2 2 (t 4)]
def c_9:CC:=(.seq (.ops r_9_1) (bs [0,2]) (.seq (.ops r_9_2) (bs [2]) .ret))
def f_9:ze:=⟨5,[.cell (some 2) (bits 2)],c_9,none,none⟩
def r_m_1:List CI:=[mv 6 (t 0),mv 7 (t 1),le 8 (t 7),ca 9 n_P [(t 6),(t 8)]]
def r_m_2:List CI:=[mv 4 (i 0)]
def r_m_3:List CI:=[mv 10 (t 4),mv 11 (t 1),le 12 (t 11),bi .lss 13 (t 10) (t 12)]
def r_m_4:List CI:=[mv 16 (t 1),mv 17 (t 4),ia 18 2 16 (t 17),ln 19 2 18,oo 5 (.alloc [(iI 0),(iI 0)]),st 2 5 (t 19)]
def r_m_5:List CI:=[fa 20 0 5,l 21 20,bi .neq 22 (t 21) (i 1)]
def r_m_6:List CI:=[mv 23 (t 0),mv 24 (t 0),ln 25 2 5,ca 26 n_o [(t 24),(t 25)],bi .mul 27 (i 2) (t 26),bi .add 28 (t 27) (i 1),ca 29 n_P [(t 23),(t 28)]]
def r_m_7:List CI:=[fa 30 1 5,l 31 30,bi .geq 32 (t 31) (i 0)]
def r_m_8:List CI:=[mv 33 (t 0),fa 34 1 5,l 35 34,bi .mul 36 (i 4) (t 35),ca 37 n_P [(t 33),(t 36)]]
def r_m_9:List CI:=[mv 38 (t 0),fa 39 1 5,l 40 39,oo 41 (.un .neg (t 40)),bi .sub 42 (t 41) (i 1),bi .mul 43 (i 4) (t 42),bi .add 44 (t 43) (i 2),ca 45 n_P [(t 38),(t 44)]]
def r_m_10:List CI:=[mv 14 (t 4),bi .add 15 (t 14) (i 1),mv 4 (t 15)]
def c_m_11:CC:=(.seq (.seq (.ops r_m_3) (bs [0,1,4,13]) (.cond (t 13) .skip (.exit 0))) (bs [0,1,4]) (.seq (.block 2 (.seq (.ops r_m_4) (bs [0,1,4,5]) (.seq (.ops r_m_5) (bs [0,1,4,5,22]) (.cond (t 22) (.ops r_m_6) (.seq (.ops r_m_7) (bs [0,1,4,5,32]) (.cond (t 32) (.ops r_m_8) (.ops r_m_9))))))) (bs [0,1,4]) (.ops r_m_10)))
def c_m:CC:=(.seq (.ops r_m_1) (bs [0,1]) (.seq (.ops r_m_2) (bs [0,1,4]) (.block 0 (.loop (bs [0,1,4]) c_m_11))))
def f_m:ze:=⟨46,[],c_m,none,none⟩
def r_r_1:List CI:=[mv 4 (.c (.string ⟨#[]⟩))]
def r_r_2:List CI:=[mv 8 (t 0),nc 9 8,fa 10 0 9,l 11 10,le 12 (t 11),oo 13 (.buildSlice 1 1 [(iI 0)] [(0,(t 12))]),mv 5 (t 13)]
def r_r_3:List CI:=[mv 6 (i 0)]
def r_r_4:List CI:=[mv 14 (t 6),mv 15 (t 0),nc 16 15,fa 17 0 16,l 18 17,le 19 (t 18),bi .lss 20 (t 14) (t 19)]
def r_r_5:List CI:=[mv 23 (t 5),mv 24 (t 0),nc 25 24,fa 26 0 25,l 27 26,mv 28 (t 6),ia 29 2 27 (t 28),fa 30 0 29,l 31 30,mv 32 (t 0),nc 33 32,fa 34 0 33,l 35 34,mv 36 (t 6),ia 37 2 35 (t 36),fa 38 1 37,l 39 38,oo 40 (.buildSlice 2 1 [(iI 0)] [(0,(t 31)),(1,(t 39))]),ap 41 1 8 (t 23) (t 40),lo 1 (mv 5 (t 41))]
def r_r_6:List CI:=[mv 21 (t 6),bi .add 22 (t 21) (i 1),mv 6 (t 22)]
def c_r_7:CC:=(.seq (.seq (.ops r_r_4) (bs [0,1,5,6,20]) (.cond (t 20) .skip (.exit 0))) (bs [0,1,5,6]) (.seq (.block 2 (.draw r_r_5)) (bs [0,1,5,6]) (.ops r_r_6)))
def r_r_8:List CI:=[mv 45 (t 5),ca 46 n_K [(t 45)],mv 48 (t 0),nc 49 48,fa 50 1 49,l 51 50,lo 1 (ca 52 n_K [(t 51)]),mv 42 (t 1),oo 43 (.buildSlice 1 1 [(.int .u8 0)] [(0,(t 42))]),oo 44 (.b2s (t 43)),lo 1 (bi .add 47 (t 44) (t 46)),lo 2 (bi .add 53 (t 47) (t 52)),lo 2 (mv 7 (t 53))]
def r_r_9:List CI:=[mv 54 (t 7),mv 55 (t 7),ca 56 n_q [(t 55)],bi .add 57 (t 54) (t 56),mv 4 (t 57)]
def c_r:CC:=(.seq (.ops r_r_1) (bs [0,1]) (.seq (.ops r_r_2) (bs [0,1,5]) (.seq (.seq (.ops r_r_3) (bs [0,1,5,6]) (.block 0 (.loop (bs [0,1,5,6]) c_r_7))) (bs [0,1,5]) (.seq (.draw r_r_8) (bs [7]) (.seq (.ops r_r_9) (bs [4]) .ret)))))
def f_r:ze:=⟨58,[.tmp (bits 4)],c_r,none,none⟩
def r_bv_1:List CI:=[oo 2 (.recov),mv 1 (t 2)]
def r_bv_2:List CI:=[mv 3 (t 1),oo 4 (.bin .neq (.iface true) (t 3) (.c .nilIface))]
def r_bv_3:List CI:=[st 1 0 ff]
def c_bv:CC:=(.seq (.ops r_bv_1) (bs [0,1]) (.seq (.ops r_bv_2) (bs [0,4]) (.cond (t 4) (.ops r_bv_3) .skip)))
def f_bv:ze:=⟨5,[],c_bv,none,none⟩
def r_W_1:List CI:=[mv 2 (.c (.slice none 0 0))]
def r_W_2:List CI:=[mv 3 (.c (.int .u16 65535))]
def r_W_3:List CI:=[mv 8 (t 0),le 9 (t 8),mv 10 (i 0)]
def r_W_4:List CI:=[bi .lss 11 (t 10) (t 9)]
def r_W_5:List CI:=[ia 12 1 8 (t 10),l 13 12,mv 5 (t 13)]
def r_W_6:List CI:=[mv 14 (i 0)]
def r_W_7:List CI:=[bi .lss 15 (t 14) (i 8)]
def r_W_8:List CI:=[mv 16 (t 14),mv 6 (t 16)]
def r_W_9:List CI:=[mv 17 (t 3),bi .shr 18 (t 17) (.c (.int .u64 15)),mv 19 (t 5),mv 20 (t 6),bi .sub 21 (i 7) (t 20),bi .shr 22 (t 19) (t 21),bi .and 23 (t 22) (.c (.int .u8 1)),oo 24 (.conv .u16 (t 23)),bi .neq 25 (t 18) (t 24),mv 7 (t 25)]
def r_W_10:List CI:=[mv 26 (t 3),bi .shl 27 (t 26) (.c (.int .u64 1)),mv 3 (t 27)]
def r_W_11:List CI:=[mv 28 (t 7)]
def r_W_12:List CI:=[mv 29 (t 3),bi .xor 30 (t 29) (.c (.int .u16 4129)),mv 3 (t 30)]
def r_W_13:List CI:=[bi .add 31 (t 14) (i 1),mv 14 (t 31)]
def c_W_14:CC:=(.seq (.ops r_W_7) (bs [3,5,8,9,10,14,15]) (.seq (.cond (t 15) .skip (.exit 4)) (bs [3,5,8,9,10,14]) (.seq (.block 6 (.seq (.ops r_W_8) (bs [3,5,6,8,9,10,14]) (.seq (.ops r_W_9) (bs [3,5,7,8,9,10,14]) (.seq (.ops r_W_10) (bs [3,5,7,8,9,10,14]) (.seq (.ops r_W_11) (bs [3,5,8,9,10,14,28]) (.cond (t 28) (.ops r_W_12) .skip)))))) (bs [3,5,8,9,10,14]) (.ops r_W_13))))
def r_W_15:List CI:=[bi .add 32 (t 10) (i 1),mv 10 (t 32)]
def c_W_16:CC:=(.seq (.ops r_W_4) (bs [3,8,9,10,11]) (.seq (.cond (t 11) .skip (.exit 0)) (bs [3,8,9,10]) (.seq (.block 2 (.seq (.ops r_W_5) (bs [3,5,8,9,10]) (.seq (.ops r_W_6) (bs [3,5,8,9,10,14]) (.block 4 (.loop (bs [3,5,8,9,10,14]) c_W_14))))) (bs [3,8,9,10]) (.ops r_W_15))))
def r_W_17:List CI:=[mv 33 (t 3),bi .shr 34 (t 33) (.c (.int .u64 8)),oo 35 (.conv .u8 (t 34)),mv 36 (t 3),oo 37 (.conv .u8 (t 36)),oo 38 (.buildSlice 2 1 [(.int .u8 0)] [(0,(t 35)),(1,(t 37))]),mv 2 (t 38)]
def c_W:CC:=(.seq (.ops r_W_1) (bs [0]) (.seq (.ops r_W_2) (bs [0,3]) (.seq (.seq (.ops r_W_3) (bs [3,8,9,10]) (.block 0 (.loop (bs [3,8,9,10]) c_W_16))) (bs [3]) (.seq (.ops r_W_17) (bs [2]) .ret))))
def f_W:ze:=⟨39,[.tmp (bits 2)],c_W,none,none⟩
def r_V_1:List CI:=[mv 2 (i 0)]
def r_V_2:List CI:=[mv 4 (t 0),ca 5 n_u [(t 4)],mv 3 (t 5)]
def r_V_3:List CI:=[mv 6 (t 3),mv 7 (t 0),nc 8 7,fa 9 2 8,l 10 9,oo 11 (.blt .lenStr [(t 10)]),bi .gtr 12 (t 6) (t 11)]
def r_V_4:List CI:=[oo 13 (.build [] []),oo 14 (.mkI 192 (t 13)),on (.panic (t 14))]
def r_V_5:List CI:=[mv 15 (t 3),mv 2 (t 15)]
def c_V:CC:=(.seq (.ops r_V_1) (bs [0]) (.seq (.ops r_V_2) (bs [0,3]) (.seq (.seq (.ops r_V_3) (bs [3,12]) (.cond (t 12) (.ops r_V_4) .skip)) (bs [3]) (.seq (.ops r_V_5) (bs [2]) .ret))))
def f_V:ze:=⟨16,[.tmp (bits 2)],c_V,none,none⟩
def r_u_1:List CI:=[mv 2 (i 0)]
def r_u_2:List CI:=[mv 3 (.c (.int .u64 0))]
def r_u_3:List CI:=[mv 4 (i 0)]
def r_u_4:List CI:=[mv 6 (t 4),bi .lss 7 (t 6) (i 35)]
def r_u_5:List CI:=[mv 10 (t 0),nc 11 10,fa 12 2 11,l 13 12,bi .eql 14 (t 13) (.c (.string ⟨#[]⟩))]
def r_u_6:List CI:=[oo 15 (.build [] []),oo 16 (.mkI 192 (t 15)),on (.panic (t 16))]
def r_u_7:List CI:=[mv 17 (t 0),nc 18 17,fa 19 2 18,l 20 19,oo 21 (.strIdx (t 20) (i 0)),mv 5 (t 21)]
def r_u_8:List CI:=[mv 22 (t 0),mv 23 (t 0),nc 24 23,fa 25 2 24,l 26 25,oo 27 (.strSlice (t 26) (some (i 1)) none),nc 28 22,fa 29 2 28,st 1 29 (t 27)]
def r_u_9:List CI:=[mv 30 (t 3),mv 31 (t 5),bi .and 32 (t 31) (.c (.int .u8 127)),oo 33 (.conv .u64 (t 32)),mv 34 (t 4),bi .shl 35 (t 33) (t 34),bi .or 36 (t 30) (t 35),mv 3 (t 36)]
def r_u_10:List CI:=[mv 37 (t 5),bi .lss 38 (t 37) (.c (.int .u8 128))]
def r_u_11:List CI:=[mv 39 (t 3),oo 40 (.conv .i64 (t 39)),mv 2 (t 40)]
def r_u_12:List CI:=[mv 8 (t 4),bi .add 9 (t 8) (i 7),mv 4 (t 9)]
def c_u_13:CC:=(.seq (.seq (.ops r_u_4) (bs [0,2,3,4,7]) (.cond (t 7) .skip (.exit 0))) (bs [0,2,3,4]) (.seq (.block 2 (.seq (.seq (.ops r_u_5) (bs [0,2,3,4,14]) (.cond (t 14) (.ops r_u_6) .skip)) (bs [0,2,3,4]) (.seq (.ops r_u_7) (bs [0,2,3,4,5]) (.seq (.ops r_u_8) (bs [0,2,3,4,5]) (.seq (.ops r_u_9) (bs [0,2,3,4,5]) (.seq (.ops r_u_10) (bs [0,2,3,4,38]) (.cond (t 38) (.seq (.ops r_u_11) (bs [2]) .ret) .skip))))))) (bs [0,2,3,4]) (.ops r_u_12)))
def r_u_14:List CI:=[oo 41 (.build [] []),oo 42 (.mkI 192 (t 41)),on (.panic (t 42))]
def c_u:CC:=(.seq (.ops r_u_1) (bs [0,2]) (.seq (.ops r_u_2) (bs [0,2,3]) (.seq (.seq (.ops r_u_3) (bs [0,2,3,4]) (.block 0 (.loop (bs [0,2,3,4]) c_u_13))) (bs [2]) (.ops r_u_14))))
def f_u:ze:=⟨43,[.tmp (bits 2)],c_u,none,none⟩
def r_w_1:List CI:=[mv 2 (i 0)]
def r_w_2:List CI:=[mv 4 (t 0),ca 5 n_e [(t 4)],mv 3 (t 5)]
def r_w_3:List CI:=[mv 6 (t 3),mv 7 (t 0),nc 8 7,fa 9 0 8,l 10 9,oo 11 (.blt .lenStr [(t 10)]),mv 12 (t 0),nc 13 12,fa 14 1 13,l 15 14,bi .sub 16 (t 11) (t 15),bi .gtr 17 (t 6) (t 16)]
def r_w_4:List CI:=[mv 18 (t 0),nc 19 18,fa 20 3 19,st 1 20 tt]
def r_w_5:List CI:=[mv 2 (i 0)]
def r_w_6:List CI:=[mv 21 (t 3),mv 2 (t 21)]
def c_w:CC:=(.seq (.ops r_w_1) (bs [0]) (.seq (.ops r_w_2) (bs [0,3]) (.seq (.seq (.draw r_w_3) (bs [0,3,17]) (.cond (t 17) (.seq (.ops r_w_4) [] (.seq (.ops r_w_5) (bs [2]) .ret)) .skip)) (bs [3]) (.seq (.ops r_w_6) (bs [2]) .ret))))
def f_w:ze:=⟨22,[.tmp (bits 2)],c_w,none,none⟩
def r_e_1:List CI:=[mv 2 (i 0)]
def r_e_2:List CI:=[mv 3 (i 0)]
def r_e_3:List CI:=[mv 4 (i 1)]
def r_e_4:List CI:=[mv 5 (i 0)]
def r_e_5:List CI:=[mv 7 (t 5),bi .lss 8 (t 7) (i 5)]
def r_e_6:List CI:=[mv 11 (t 0),nc 12 11,fa 13 1 12,l 14 13,mv 15 (t 0),nc 16 15,fa 17 0 16,l 18 17,oo 19 (.blt .lenStr [(t 18)]),bi .geq 20 (t 14) (t 19)]
def r_e_7:List CI:=[mv 21 (t 0),nc 22 21,fa 23 3 22,st 1 23 tt]
def r_e_8:List CI:=[mv 2 (i 0)]
def r_e_9:List CI:=[mv 24 (t 0),nc 25 24,fa 26 0 25,l 27 26,mv 28 (t 0),nc 29 28,fa 30 1 29,l 31 30,oo 32 (.strIdx (t 27) (t 31)),oo 33 (.conv .i64 (t 32)),mv 6 (t 33)]
def r_e_10:List CI:=[mv 34 (t 0),nc 35 34,fa 36 1 35,l 37 36,bi .add 38 (t 37) (i 1),nc 39 34,fa 40 1 39,st 1 40 (t 38)]
def r_e_11:List CI:=[mv 41 (t 3),mv 42 (t 6),bi .rem 43 (t 42) (i 128),mv 44 (t 4),bi .mul 45 (t 43) (t 44),bi .add 46 (t 41) (t 45),mv 3 (t 46)]
def r_e_12:List CI:=[mv 47 (t 4),bi .mul 48 (t 47) (i 128),mv 4 (t 48)]
def r_e_13:List CI:=[mv 49 (t 6),bi .lss 50 (t 49) (i 128)]
def r_e_14:List CI:=[mv 51 (t 3),mv 2 (t 51)]
def r_e_15:List CI:=[mv 9 (t 5),bi .add 10 (t 9) (i 1),mv 5 (t 10)]
def c_e_16:CC:=(.seq (.seq (.ops r_e_5) (bs [0,3,4,5,8]) (.cond (t 8) .skip (.exit 0))) (bs [0,3,4,5]) (.seq (.block 2 (.seq (.seq (.draw r_e_6) (bs [0,3,4,5,20]) (.cond (t 20) (.seq (.ops r_e_7) [] (.seq (.ops r_e_8) (bs [2]) .ret)) .skip)) (bs [0,3,4,5]) (.seq (.draw r_e_9) (bs [0,3,4,5,6]) (.seq (.ops r_e_10) (bs [0,3,4,5,6]) (.seq (.ops r_e_11) (bs [0,3,4,5,6]) (.seq (.ops r_e_12) (bs [0,3,4,5,6]) (.seq (.ops r_e_13) (bs [0,3,4,5,50]) (.cond (t 50) (.seq (.ops r_e_14) (bs [2]) .ret) .skip)))))))) (bs [0,3,4,5]) (.ops r_e_15)))
def r_e_17:List CI:=[mv 52 (t 0),nc 53 52,fa 54 3 53,st 1 54 tt]
def r_e_18:List CI:=[mv 2 (i 0)]
def c_e:CC:=(.seq (.ops r_e_1) (bs [0]) (.seq (.ops r_e_2) (bs [0,3]) (.seq (.ops r_e_3) (bs [0,3,4]) (.seq (.seq (.ops r_e_4) (bs [0,3,4,5]) (.block 0 (.loop (bs [0,3,4,5]) c_e_16))) (bs [0]) (.seq (.ops r_e_17) [] (.seq (.ops r_e_18) (bs [2]) .ret))))))
def f_e:ze:=⟨55,[.tmp (bits 2)],c_e,none,none⟩
def r_ba_1:List CI:=[oo 4 (.alloc [(iI 0),(iI 0)])]
def r_ba_2:List CI:=[mv 5 (t 1),mv 6 (t 0),nc 7 6,fa 8 0 7,fa 9 0 8,l 10 9,le 11 (t 10),bi .geq 12 (t 5) (t 11)]
def r_ba_3:List CI:=[oo 13 (.build [] []),oo 14 (.mkI 192 (t 13)),on (.panic (t 14))]
def r_ba_4:List CI:=[mv 15 (t 0),nc 16 15,fa 17 0 16,fa 18 0 17,l 19 18,mv 20 (t 1),ia 21 2 19 (t 20),ln 22 2 21,st 2 4 (t 22)]
def c_ba:CC:=(.seq (.ops r_ba_1) (bs [0,1,4]) (.seq (.seq (.ops r_ba_2) (bs [0,1,4,12]) (.cond (t 12) (.ops r_ba_3) .skip)) (bs [0,1,4]) (.seq (.ops r_ba_4) (bs [4]) .ret)))
def f_ba:ze:=⟨23,[.cell (some 2) (bits 4)],c_ba,none,none⟩
def r_bb_1:List CI:=[mv 4 (.c (.slice none 0 0))]
def r_bb_2:List CI:=[mv 5 (t 1),bi .gtr 6 (t 5) (i 127)]
def r_bb_3:List CI:=[mv 9 (t 0),mv 10 (t 1),bi .and 11 (t 10) (i 127),bi .or 12 (t 11) (i 128),oo 13 (.conv .u8 (t 12)),oo 14 (.buildSlice 1 1 [(.int .u8 0)] [(0,(t 13))]),ap 15 1 1 (t 9) (t 14),mv 0 (t 15)]
def r_bb_4:List CI:=[mv 7 (t 1),bi .shr 8 (t 7) (.c (.int .u64 7)),mv 1 (t 8)]
def c_bb_5:CC:=(.seq (.seq (.ops r_bb_2) (bs [0,1,6]) (.cond (t 6) .skip (.exit 0))) (bs [0,1]) (.seq (.block 2 (.ops r_bb_3)) (bs [0,1]) (.ops r_bb_4)))
def r_bb_6:List CI:=[mv 16 (t 0),mv 17 (t 1),oo 18 (.conv .u8 (t 17)),oo 19 (.buildSlice 1 1 [(.int .u8 0)] [(0,(t 18))]),ap 20 1 1 (t 16) (t 19),mv 4 (t 20)]
def c_bb:CC:=(.seq (.ops r_bb_1) (bs [0,1]) (.seq (.block 0 (.loop (bs [0,1]) c_bb_5)) (bs [0,1]) (.seq (.ops r_bb_6) (bs [4]) .ret)))
def f_bb:ze:=⟨21,[.tmp (bits 4)],c_bb,none,none⟩
def r_O_1:List CI:=[bx 1 (t 0),mv 2 ff]
def r_O_2:List CI:=[fa 3 0 1,l 4 3]
def r_O_3:List CI:=[bi .eql 6 (t 4) (i 2),mv 5 (t 6)]
def r_O_4:List CI:=[fa 7 1 1,l 8 7,ca 9 n_1 [(t 8),(i 0),(i 11)],mv 2 (t 9)]
def r_O_5:List CI:=[bi .eql 11 (t 4) (i 3),mv 10 (t 11)]
def r_O_6:List CI:=[fa 12 1 1,l 13 12,ca 14 n_1 [(t 13),(i 0),(i 59)],mv 2 (t 14)]
def r_O_7:List CI:=[bi .eql 16 (t 4) (i 4),mv 15 (t 16)]
def r_O_8:List CI:=[fa 17 1 1,l 18 17,ca 19 n_1 [(t 18),(i 0),(i 23)],mv 2 (t 19)]
def r_O_9:List CI:=[mv 2 ff]
def c_O:CC:=(.seq (.ops r_O_1) (bs [1]) (.seq (.seq (.ops r_O_2) (bs [1,4]) (.block 0 (.seq (.ops r_O_3) (bs [1,4,5]) (.cond (t 5) (.seq (.ops r_O_4) (bs [2]) .ret) (.seq (.ops r_O_5) (bs [1,4,10]) (.cond (t 10) (.seq (.ops r_O_6) (bs [2]) .ret) (.seq (.ops r_O_7) (bs [1,15]) (.cond (t 15) (.seq (.ops r_O_8) (bs [2]) .ret) .skip)))))))) [] (.seq (.ops r_O_9) (bs [2]) .ret)))
def f_O:ze:=⟨20,[.tmp (bits 2)],c_O,none,none⟩
def r_S_1:List CI:=[mv 2 (.c (.string ⟨#[]⟩))]
def r_S_2:List CI:=[mv 3 (.c (.string ⟨#[]⟩))]
def r_S_3:List CI:=[mv 4 (t 0),bi .geq 5 (t 4) (i 128)]
def r_S_4:List CI:=[mv 6 (t 3),mv 7 (t 0),bi .rem 8 (t 7) (i 128),bi .add 9 (i 128) (t 8),oo 10 (.conv .u8 (t 9)),oo 11 (.buildSlice 1 1 [(.int .u8 0)] [(0,(t 10))]),oo 12 (.b2s (t 11)),bi .add 13 (t 6) (t 12),mv 3 (t 13)]
def r_S_5:List CI:=[mv 14 (t 0),bi .quo 15 (t 14) (i 128),mv 0 (t 15)]
def c_S_6:CC:=(.seq (.seq (.ops r_S_3) (bs [0,3,5]) (.cond (t 5) .skip (.exit 0))) (bs [0,3]) (.block 2 (.seq (.ops r_S_4) (bs [0,3]) (.ops r_S_5))))
def r_S_7:List CI:=[mv 16 (t 3),mv 17 (t 0),oo 18 (.conv .u8 (t 17)),oo 19 (.buildSlice 1 1 [(.int .u8 0)] [(0,(t 18))]),oo 20 (.b2s (t 19)),bi .add 21 (t 16) (t 20),mv 2 (t 21)]
def c_S:CC:=(.seq (.ops r_S_1) (bs [0]) (.seq (.ops r_S_2) (bs [0,3]) (.seq (.block 0 (.loop (bs [0,3]) c_S_6)) (bs [0,3]) (.seq (.ops r_S_7) (bs [2]) .ret))))
def f_S:ze:=⟨22,[.tmp (bits 2)],c_S,none,none⟩
def r_E_1:List CI:=[mv 4 (i 0)]
def r_E_2:List CI:=[mv 6 (t 0),le 7 (t 6),mv 8 (i 0)]
def r_E_3:List CI:=[bi .lss 9 (t 8) (t 7)]
def r_E_4:List CI:=[mv 10 (t 8),mv 5 (t 10)]
def r_E_5:List CI:=[mv 11 (t 1),mv 12 (t 0),mv 13 (t 5),ia 14 1 12 (t 13),l 15 14,bi .eql 16 (t 11) (t 15)]
def r_E_6:List CI:=[mv 17 (t 5),mv 4 (t 17)]
def r_E_7:List CI:=[bi .add 18 (t 8) (i 1),mv 8 (t 18)]
def c_E_8:CC:=(.seq (.ops r_E_3) (bs [0,1,7,8,9]) (.seq (.cond (t 9) .skip (.exit 0)) (bs [0,1,7,8]) (.seq (.block 2 (.seq (.ops r_E_4) (bs [0,1,5,7,8]) (.seq (.ops r_E_5) (bs [0,1,5,7,8,16]) (.cond (t 16) (.seq (.ops r_E_6) (bs [4]) .ret) .skip)))) (bs [0,1,7,8]) (.ops r_E_7))))
def r_E_9:List CI:=[mv 4 (i (-1))]
def c_E:CC:=(.seq (.ops r_E_1) (bs [0,1]) (.seq (.seq (.ops r_E_2) (bs [0,1,7,8]) (.block 0 (.loop (bs [0,1,7,8]) c_E_8))) [] (.seq (.ops r_E_9) (bs [4]) .ret)))
def f_E:ze:=⟨19,[.tmp (bits 4)],c_E,none,none⟩
def r_Z_1:List CI:=[mv 4 ff]
def r_Z_2:List CI:=[mv 5 (t 0),mv 6 (t 1),ca 7 n_s [(t 5),(t 6)],bi .geq 8 (t 7) (i 0),mv 4 (t 8)]
def c_Z:CC:=(.seq (.ops r_Z_1) (bs [0,1]) (.seq (.ops r_Z_2) (bs [4]) .ret))
def f_Z:ze:=⟨9,[.tmp (bits 4)],c_Z,none,none⟩
def r_by_1:List CI:=[mv 3 ff]
def r_by_2:List CI:=[l 4 1,mv 5 (t 0),oo 6 (.call (t 4) [(t 5)]),no 7 6,mv 3 (t 7)]
def c_by:CC:=(.seq (.ops r_by_1) (bs [0,1]) (.seq (.ops r_by_2) (bs [3]) .ret))
def f_by:ze:=⟨8,[.tmp (bits 3)],c_by,none,none⟩
def r_M_1:List CI:=[mv 4 ff]
def r_M_2:List CI:=[mv 5 (t 0),mv 6 (t 1),ca 7 n_j [(t 5),(t 6)],bi .geq 8 (t 7) (i 0),mv 4 (t 8)]
def c_M:CC:=(.seq (.ops r_M_1) (bs [0,1]) (.seq (.ops r_M_2) (bs [4]) .ret))
def f_M:ze:=⟨9,[.tmp (bits 4)],c_M,none,none⟩
def r_bu_1:List CI:=[bx 2 (t 0),mv 3 ff]
def r_bu_2:List CI:=[l 4 1,ln 5 1 2,oo 6 (.call (t 4) [(t 5)]),no 7 6,mv 3 (t 7)]
def c_bu:CC:=(.seq (.ops r_bu_1) (bs [1,2]) (.seq (.ops r_bu_2) (bs [3]) .ret))
def f_bu:ze:=⟨8,[.tmp (bits 3)],c_bu,none,none⟩
def r_L_1:List CI:=[mv 4 ff]
def r_L_2:List CI:=[mv 5 (t 0),mv 6 (t 1),ca 7 n_k [(t 5),(t 6)],bi .geq 8 (t 7) (i 0),mv 4 (t 8)]
def c_L:CC:=(.seq (.ops r_L_1) (bs [0,1]) (.seq (.ops r_L_2) (bs [4]) .ret))
def f_L:ze:=⟨9,[.tmp (bits 4)],c_L,none,none⟩
def r_bw_1:List CI:=[bx 2 (t 0),mv 3 ff]
def r_bw_2:List CI:=[l 4 1,ln 5 2 2,oo 6 (.call (t 4) [(t 5)]),no 7 6,mv 3 (t 7)]
def c_bw:CC:=(.seq (.ops r_bw_1) (bs [1,2]) (.seq (.ops r_bw_2) (bs [3]) .ret))
def f_bw:ze:=⟨8,[.tmp (bits 3)],c_bw,none,none⟩
def r_A_1:List CI:=[mv 4 ff]
def r_A_2:List CI:=[mv 5 (t 0),mv 6 (t 1),ca 7 n_f [(t 5),(t 6)],bi .geq 8 (t 7) (i 0),mv 4 (t 8)]
def c_A:CC:=(.seq (.ops r_A_1) (bs [0,1]) (.seq (.ops r_A_2) (bs [4]) .ret))
def f_A:ze:=⟨9,[.tmp (bits 4)],c_A,none,none⟩
def r_br_1:List CI:=[bx 2 (t 0),mv 3 ff]
def r_br_2:List CI:=[l 4 1,ln 5 2 2,oo 6 (.call (t 4) [(t 5)]),no 7 6,mv 3 (t 7)]
def c_br:CC:=(.seq (.ops r_br_1) (bs [1,2]) (.seq (.ops r_br_2) (bs [3]) .ret))
def f_br:ze:=⟨8,[.tmp (bits 3)],c_br,none,none⟩
def r_D_1:List CI:=[mv 4 ff]
def r_D_2:List CI:=[mv 5 (t 0),mv 6 (t 1),ca 7 n_h [(t 5),(t 6)],bi .geq 8 (t 7) (i 0),mv 4 (t 8)]
def c_D:CC:=(.seq (.ops r_D_1) (bs [0,1]) (.seq (.ops r_D_2) (bs [4]) .ret))
def f_D:ze:=⟨9,[.tmp (bits 4)],c_D,none,none⟩
def r_bs_1:List CI:=[bx 2 (t 0),mv 3 ff]
def r_bs_2:List CI:=[l 4 1,ln 5 4 2,oo 6 (.call (t 4) [(t 5)]),no 7 6,mv 3 (t 7)]
def c_bs:CC:=(.seq (.ops r_bs_1) (bs [1,2]) (.seq (.ops r_bs_2) (bs [3]) .ret))
def f_bs:ze:=⟨8,[.tmp (bits 3)],c_bs,none,none⟩
def r_R_1:List CI:=[bx 3 (t 1),mv 4 (i 0)]
def r_R_2:List CI:=[mv 8 (t 0),nc 9 8,fa 10 1 9,l 11 10,ln 12 2 3,oo 13 (.lookup (.leaves [0,1]) (iI 0) true (t 11) (t 12)),mv 7 (t 13),ex 14 7 0,ex 15 7 1,mv 5 (t 14),mv 6 (t 15)]
def r_R_3:List CI:=[mv 16 (t 6),no 17 16]
def r_R_4:List CI:=[mv 18 (t 0),nc 19 18,fa 20 0 19,l 21 20,le 22 (t 21),mv 5 (t 22)]
def r_R_5:List CI:=[mv 24 (t 0),nc 25 24,fa 26 0 25,l 27 26,ln 28 2 3,oo 29 (.buildSlice 1 2 [(iI 0),(iI 0)] [(0,(t 28))]),ap 30 2 16 (t 27) (t 29),mv 23 (t 0),lo 1 (nc 31 23),lo 1 (fa 32 0 31),lo 1 (st 1 32 (t 30))]
def r_R_6:List CI:=[mv 33 (t 0),nc 34 33,fa 35 1 34,l 36 35,ln 37 2 3,mv 38 (t 5),on (.mapUpdate (.leaves [0,1]) (t 36) (t 37) (t 38))]
def r_R_7:List CI:=[mv 39 (t 5),mv 4 (t 39)]
def c_R:CC:=(.seq (.ops r_R_1) (bs [0,3]) (.seq (.draw r_R_2) (bs [0,3,5,6]) (.seq (.seq (.ops r_R_3) (bs [0,3,5,17]) (.cond (t 17) (.seq (.ops r_R_4) (bs [0,3,5]) (.seq (.draw r_R_5) (bs [0,3,5]) (.draw r_R_6))) .skip)) (bs [5]) (.seq (.ops r_R_7) (bs [4]) .ret))))
def f_R:ze:=⟨40,[.tmp (bits 4)],c_R,none,none⟩
def r_s_1:List CI:=[mv 4 (i 0)]
def r_s_2:List CI:=[mv 6 (t 0),le 7 (t 6),mv 8 (i 0)]
def r_s_3:List CI:=[bi .lss 9 (t 8) (t 7)]
def r_s_4:List CI:=[mv 10 (t 8),mv 5 (t 10)]
def r_s_5:List CI:=[mv 11 (t 1),mv 12 (t 0),mv 13 (t 5),ia 14 1 12 (t 13),l 15 14,oo 16 (.call (t 11) [(t 15)])]
def r_s_6:List CI:=[mv 17 (t 5),mv 4 (t 17)]
def r_s_7:List CI:=[bi .add 18 (t 8) (i 1),mv 8 (t 18)]
def c_s_8:CC:=(.seq (.ops r_s_3) (bs [0,1,7,8,9]) (.seq (.cond (t 9) .skip (.exit 0)) (bs [0,1,7,8]) (.seq (.block 2 (.seq (.ops r_s_4) (bs [0,1,5,7,8]) (.seq (.ops r_s_5) (bs [0,1,5,7,8,16]) (.cond (t 16) (.seq (.ops r_s_6) (bs [4]) .ret) .skip)))) (bs [0,1,7,8]) (.ops r_s_7))))
def r_s_9:List CI:=[mv 4 (i (-1))]
def c_s:CC:=(.seq (.ops r_s_1) (bs [0,1]) (.seq (.seq (.ops r_s_2) (bs [0,1,7,8]) (.block 0 (.loop (bs [0,1,7,8]) c_s_8))) [] (.seq (.ops r_s_9) (bs [4]) .ret)))
def f_s:ze:=⟨19,[.tmp (bits 4)],c_s,none,none⟩
def r_j_1:List CI:=[mv 4 (i 0)]
def r_j_2:List CI:=[mv 6 (t 0),le 7 (t 6),mv 8 (i 0)]
def r_j_3:List CI:=[bi .lss 9 (t 8) (t 7)]
def r_j_4:List CI:=[mv 10 (t 8),mv 5 (t 10)]
def r_j_5:List CI:=[mv 11 (t 1),mv 12 (t 0),mv 13 (t 5),ia 14 1 12 (t 13),ln 15 1 14,oo 16 (.call (t 11) [(t 15)])]
def r_j_6:List CI:=[mv 17 (t 5),mv 4 (t 17)]
def r_j_7:List CI:=[bi .add 18 (t 8) (i 1),mv 8 (t 18)]
def c_j_8:CC:=(.seq (.ops r_j_3) (bs [0,1,7,8,9]) (.seq (.cond (t 9) .skip (.exit 0)) (bs [0,1,7,8]) (.seq (.block 2 (.seq (.ops r_j_4) (bs [0,1,5,7,8]) (.seq (.ops r_j_5) (bs [0,1,5,7,8,16]) (.cond (t 16) (.seq (.ops r_j_6) (bs [4]) .ret) .skip)))) (bs [0,1,7,8]) (.ops r_j_7))))
def r_j_9:List CI:=[mv 4 (i (-1))]
def c_j:CC:=(.seq (.ops r_j_1) (bs [0,1]) (.seq (.seq (.ops r_j_2) (bs [0,1,7,8]) (.block 0 (.loop (bs [0,1,7,8]) c_j_8))) [] (.seq (.ops r_j_9) (bs [4]) .ret)))
def f_j:ze:=⟨19,[.tmp (bits 4)],c_j,none,none⟩
def r_k_1:List CI:=[mv 4 (i 0)]
def r_k_2:List CI:=[mv 6 (t 0),le 7 (t 6),mv 8 (i 0)]
def r_k_3:List CI:=[bi .lss 9 (t 8) (t 7)]
def r_k_4:List CI:=[mv 10 (t 8),mv 5 (t 10)]
def r_k_5:List CI:=[mv 11 (t 1),mv 12 (t 0),mv 13 (t 5),ia 14 2 12 (t 13),ln 15 2 14,oo 16 (.call (t 11) [(t 15)])]
def r_k_6:List CI:=[mv 17 (t 5),mv 4 (t 17)]
def r_k_7:List CI:=[bi .add 18 (t 8) (i 1),mv 8 (t 18)]
def c_k_8:CC:=(.seq (.ops r_k_3) (bs [0,1,7,8,9]) (.seq (.cond (t 9) .skip (.exit 0)) (bs [0,1,7,8]) (.seq (.block 2 (.seq (.ops r_k_4) (bs [0,1,5,7,8]) (.seq (.ops r_k_5) (bs [0,1,5,7,8,16]) (.cond (t 16) (.seq (.ops r_k_6) (bs [4]) .ret) .skip)))) (bs [0,1,7,8]) (.ops r_k_7))))
def r_k_9:List CI:=[mv 4 (i (-1))]
def c_k:CC:=(.seq (.ops r_k_1) (bs [0,1]) (.seq (.seq (.ops r_k_2) (bs [0,1,7,8]) (.block 0 (.loop (bs [0,1,7,8]) c_k_8))) [] (.seq (.ops r_k_9) (bs [4]) .ret)))
def f_k:ze:=⟨19,[.tmp (bits 4)],c_k,none,none⟩
def r_f_1:List CI:=[mv 4 (i 0)]
def r_f_2:List CI:=[mv 6 (t 0),le 7 (t 6),mv 8 (i 0)]
def r_f_3:List CI:=[bi .lss 9 (t 8) (t 7)]
def r_f_4:List CI:=[mv 10 (t 8),mv 5 (t 10)]
def r_f_5:List CI:=[mv 11 (t 1),mv 12 (t 0),mv 13 (t 5),ia 14 2 12 (t 13),ln 15 2 14,oo 16 (.call (t 11) [(t 15)])]
def r_f_6:List CI:=[mv 17 (t 5),mv 4 (t 17)]
def r_f_7:List CI:=[bi .add 18 (t 8) (i 1),mv 8 (t 18)]
def c_f_8:CC:=(.seq (.ops r_f_3) (bs [0,1,7,8,9]) (.seq (.cond (t 9) .skip (.exit 0)) (bs [0,1,7,8]) (.seq (.block 2 (.seq (.ops r_f_4) (bs [0,1,5,7,8]) (.seq (.ops r_f_5) (bs [0,1,5,7,8,16]) (.cond (t 16) (.seq (.ops r_f_6) (bs [4]) .ret) .skip)))) (bs [0,1,7,8]) (.ops r_f_7))))
def r_f_9:List CI:=[mv 4 (i (-1))]
def c_f:CC:=(.seq (.ops r_f_1) (bs [0,1]) (.seq (.seq (.ops r_f_2) (bs [0,1,7,8]) (.block 0 (.loop (bs [0,1,7,8]) c_f_8))) [] (.seq (.ops r_f_9) (bs [4]) .ret)))
def f_f:ze:=⟨19,[.tmp (bits 4)],c_f,none,none⟩
def r_h_1:List CI:=[mv 4 (i 0)]
def r_h_2:List CI:=[mv 6 (t 0),le 7 (t 6),mv 8 (i 0)]
def r_h_3:List CI:=[bi .lss 9 (t 8) (t 7)]
def r_h_4:List CI:=[mv 10 (t 8),mv 5 (t 10)]
def r_h_5:List CI:=[mv 11 (t 1),mv 12 (t 0),mv 13 (t 5),ia 14 4 12 (t 13),ln 15 4 14,oo 16 (.call (t 11) [(t 15)])]
def r_h_6:List CI:=[mv 17 (t 5),mv 4 (t 17)]
def r_h_7:List CI:=[bi .add 18 (t 8) (i 1),mv 8 (t 18)]
def c_h_8:CC:=(.seq (.ops r_h_3) (bs [0,1,7,8,9]) (.seq (.cond (t 9) .skip (.exit 0)) (bs [0,1,7,8]) (.seq (.block 2 (.seq (.ops r_h_4) (bs [0,1,5,7,8]) (.seq (.ops r_h_5) (bs [0,1,5,7,8,16]) (.cond (t 16) (.seq (.ops r_h_6) (bs [4]) .ret) .skip)))) (bs [0,1,7,8]) (.ops r_h_7))))
def r_h_9:List CI:=[mv 4 (i (-1))]
def c_h:CC:=(.seq (.ops r_h_1) (bs [0,1]) (.seq (.seq (.ops r_h_2) (bs [0,1,7,8]) (.block 0 (.loop (bs [0,1,7,8]) c_h_8))) [] (.seq (.ops r_h_9) (bs [4]) .ret)))
def f_h:ze:=⟨19,[.tmp (bits 4)],c_h,none,none⟩
end Go.Ideal.Q
namespace Go.Ideal
noncomputable section
variable {P:Program}
def zbU (W:World) (b:Nat):Bool:=match W.heap[b]? with
 |some (.cells _ _ _)=>true
 |_=>false
def okV (W:World):Value→Bool
 |.bool _=>true
 |.int _ _=>true
 |.string _=>true
 |.nilFunc=>true
 |.pointer none=>true
 |.map none=>true
 |.slice none 0 0=>true
 |.slice (some a) len cap=>a.spot.isNone&&(decide (len≤cap)&&(decide (cap<zg)&&zbU W a.block))
 |.pointer (some a)=>a.spot.isNone&&zbU W a.block
 |_=>false
def isDang:Value→Bool
 |.slice (some _) 0 0=>true
 |_=>false
def dang (W:World):Value:=.slice (some ⟨W.heap.size,0,none⟩) 0 0
def impV (W:World) (v:Value):Value:=if okV W v then v else if isDang v then dang W else poison
def impObj (W:World):Obj→Option IObj
 |.cells c _ _=>some (.cells (c.toList.map (impV W)) roE)
 |_=>none
open Classical in
def dangR (W:World):Option RB:=if h: ∃b,zbU W b=true then some ⟨Classical.choose h,0,0,0,1,none⟩ else none
def zdV (W:World) (i:Nat):Option RB:=if i=W.heap.size then dangR W else(W.heap[i]?).bind fun o=>match o with
 |.cells c _ _=>some ⟨i,0,c.size,roE,c.size,some o⟩
 |_=>none
def zlB (W:World) (n:Nat):PT IObj:=Nat.rec (motive:=fun _=>PT IObj) .nil (fun i t=>match(W.heap[i]?).bind (impObj W) with|some o=>t.set (bits i) o|none=>t) n
def impH (W:World):H:=⟨W.heap.size+1,zlB W W.heap.size⟩
theorem ziy (W:World): ∀(n j:Nat),(zlB W n).get (bits j)=if j<n then(W.heap[j]?).bind (impObj W) else none
 |0,j=>by rw[if_neg (by omega)];exact PT.get_nil _
 |n+1,j=>by
  have e:zlB W (n+1)=match(W.heap[n]?).bind (impObj W) with|some o=>(zlB W n).set (bits n) o|none=>zlB W n:=rfl
  rw[e]
  cases ho:(W.heap[n]?).bind (impObj W) with
  |none=>
   rw[ziy W n j]
   by_cases h:j<n
   ·rw[if_pos h,if_pos (by omega)]
   ·rw[if_neg h]
    by_cases e:j=n
    ·subst e;rw[if_pos (by omega),ho]
    ·rw[if_neg (by omega)]
  |some o=>
   dsimp only
   rw[PT.get_set_bits,ziy W n j]
   by_cases e:n=j
   ·subst e;rw[if_pos rfl,if_pos (by omega),ho]
   ·rw[if_neg e]
    by_cases h:j<n
    ·rw[if_pos h,if_pos (by omega)]
    ·rw[if_neg h,if_neg (by omega)]
theorem zhE (W:World) (j:Nat):(impH W).get j=(W.heap[j]?).bind (impObj W):=by
 show(zlB W W.heap.size).get (bits j)=_
 rw[ziy]
 by_cases h:j<W.heap.size
 ·rw[if_pos h]
 ·rw[if_neg h,Array.getElem?_eq_none (by omega)];rfl
theorem ziz {W:World} {b:Nat} {c:Array Value} {t:TypeId} {fr:Nat×Nat} (h:W.heap[b]? =some (.cells c t fr)):(impH W).get b=some (.cells (c.toList.map (impV W)) roE):=by rw[zhE,h];rfl
theorem impH_next (W:World):(impH W).next=W.heap.size+1:=rfl
theorem zlA {W:World} {b:Nat} (h:zbU W b=true):b<W.heap.size:=by
 unfold zbU at h
 split at h
 ·rename_i hb;exact(Array.getElem?_eq_some_iff.1 hb).1
 ·cases h
theorem impRho_lt {W:World} {i:Nat} (h:i<W.heap.size):zdV W i=(W.heap[i]?).bind fun o=>match o with|.cells c _ _=>some ⟨i,0,c.size,roE,c.size,some o⟩|_=>none:=by
 unfold zdV;rw[if_neg (by omega)]
theorem zfR {W:World} {b:Nat} (h:zbU W b=true): ∃R,zdV W b=some R∧R.blk=b∧R.base=0:=by
 have hlt:=zlA h
 unfold zbU at h
 split at h
 ·rename_i c t fr hb
  exact⟨_,by rw[impRho_lt hlt,hb];rfl,rfl,rfl⟩
 ·cases h
theorem okV_rel {W:World} {v:Value} (h:okV W v=true):VR (zdV W) v v:=by
 unfold okV at h
 split at h
 ·exact .bool _
 ·exact .int _ _
 ·exact .str _
 ·exact .nilFunc
 ·exact .ptrNil
 ·exact .mapNil
 ·exact .sliceNil
 ·rename_i a len cap
  simp only[Bool.and_eq_true,Option.isNone_iff_eq_none,decide_eq_true_eq] at h
  obtain⟨h1,h2,h3,h4⟩:=h
  obtain⟨R,hR,hb,h0⟩:=zfR h4
  obtain⟨b,o,sp⟩:=a
  simp only at h1 hR hb
  subst h1
  have:=VR.slice (o:=o) (len:=len) hR h3 h2
  rw[hb,h0,Nat.zero_add] at this
  exact this
 ·rename_i a
  simp only[Bool.and_eq_true,Option.isNone_iff_eq_none] at h
  obtain⟨h1,h4⟩:=h
  obtain⟨R,hR,hb,h0⟩:=zfR h4
  obtain⟨b,o,sp⟩:=a
  simp only at h1 hR hb
  subst h1
  have:=VR.ptr (o:=o) hR
  rw[hb,h0,Nat.zero_add] at this
  exact this
 ·cases h
theorem zeY {W:World} {i:Nat} {R:RB} (h:zdV W i=some R):(i≠W.heap.size∧ ∃c t fr,W.heap[i]? =some (.cells c t fr)∧R=⟨i,0,c.size,roE,c.size,some (.cells c t fr)⟩)∨(i=W.heap.size∧zbU W R.blk=true):=by
 unfold zdV at h
 split at h
 ·rename_i e
  refine .inr ⟨e,?_⟩
  unfold dangR at h
  split at h
  ·rename_i hx;cases h;exact Classical.choose_spec hx
  ·cases h
 ·rename_i e
  obtain⟨o,ho,h⟩:=aof h
  cases o with
  |cells c t fr=>cases h;exact .inl ⟨e,c,t,fr,ho,rfl⟩
  |_=>cases h
theorem zix {W:World} {i:Nat} {R:RB} {o:IObj} (h:zdV W i=some R) (ho:(impH W).get i=some o): ∃c t fr,W.heap[i]? =some (.cells c t fr)∧R=⟨i,0,c.size,roE,c.size,some (.cells c t fr)⟩:=by
 rcases zeY h with⟨-,h⟩| ⟨rfl,-⟩
 ·exact h
 ·rw[zhE,Array.getElem?_eq_none (Nat.le_refl _)] at ho;cases ho
theorem dang_rel {W:World} {v:Value} {b:Nat} (hb:zbU W b=true) (h:isDang v=true):VR (zdV W) (dang W) v:=by
 unfold isDang at h
 split at h
 ·refine .sliceD (R:=⟨Classical.choose (⟨b,hb⟩: ∃b,zbU W b=true),0,0,0,1,none⟩) ?_ (by show 0<1;omega)
  unfold zdV;rw[if_pos rfl];unfold dangR;rw[dif_pos ⟨b,hb⟩]
 ·cases h
theorem imp_HR (W:World):HR P (zdV W) (impH W) W where
 obj:=fun i R o hi ho=>by
  obtain⟨c,t,fr,hb,rfl⟩:=zix hi ho
  rw[ziz hb] at ho;cases ho
  refine⟨rfl,by simp,c,t,fr,hb,.inr ⟨rfl,rfl⟩,rfl,by simp,fun j v hj=> ?_⟩
  rw[List.getElem?_map] at hj
  obtain⟨x,hx,rfl⟩:=Option.map_eq_some_iff.1 hj
  refine⟨x,by rw[Array.getElem?_toList] at hx;simpa using hx,?_⟩
  unfold impV
  by_cases hok:okV W x=true
  ·rw[if_pos hok];exact .inr (okV_rel hok)
  ·rw[if_neg hok]
   by_cases hd:isDang x=true
   ·rw[if_pos hd];exact .inr (dang_rel (b:=i) (by unfold zbU;rw[hb]) hd)
   ·rw[if_neg hd];exact .inl rfl
 nxt:=fun i hi=>by
  have hi':W.heap.size+1≤i:=hi
  have hn:W.heap[i]? =none:=Array.getElem?_eq_none (by omega)
  exact⟨by unfold zdV;rw[if_neg (by omega),hn];rfl,by rw[zhE,hn];rfl⟩
 sep:=fun i j R S hi hj ai aj e=>by
  obtain⟨o,ho,-⟩:=ai
  obtain⟨o',ho',-⟩:=aj
  obtain⟨_,_,_,_,rfl⟩:=zix hi ho
  obtain⟨_,_,_,_,rfl⟩:=zix hj ho'
  exact e
 blk:=fun i R hi=>by
  rcases zeY hi with⟨-,_,_,_,hb,rfl⟩| ⟨-,hc⟩
  ·exact(Array.getElem?_eq_some_iff.1 hb).1
  ·exact zlA hc
 glb:=fun i b x hi=>by
  rw[zhE] at hi
  obtain⟨o,-,ho⟩:=aof hi
  cases o<;>cases ho
def okArg (W:World):Value→Bool
 |.agg cs=>cs.toList.all (okV W)
 |v=>okV W v
theorem okArg_rel {W:World} {v:Value} (h:okArg W v=true):VR (zdV W) v v:=by
 unfold okArg at h
 split at h
 ·rename_i cs
  have:VRL (zdV W) cs.toList cs.toList:=⟨rfl,fun j x y hx hy=>by rw[hx] at hy;cases hy;exact okV_rel (List.all_eq_true.1 h x (List.mem_of_getElem? hx))⟩
  exact VR.agg_of this
 ·exact okV_rel h
theorem calls_import {F:FuncId→Option ze} (hmix:P.follows .mixedOrders=true) (hF: ∀g cf,F g=some cf→FnOk P g cf) {g:FuncId} {args:Array Value} {W:World} (hargs: ∀v∈args.toList,okArg W v=true)
 {b:Bool} {n:Nat} {h':H} (hn:E F n (.call (.func (.func g) #[] #[]) args.toList (impH W))=some (.val (.bool b) h')) (hfr: ∀i,i<W.heap.size→h'.get i=(impH W).get i):
 Calls P g args W fun e W'=>e=.returned (.bool b)∧Same W W':=by
 have ra:VRL (zdV W) args.toList args.toList:=⟨rfl,fun j x y hx hy=>by rw[hx] at hy;cases hy;exact okArg_rel (hargs x (List.mem_of_getElem? hx))⟩
 refine(ziI hmix hF hn ra (imp_HR W)).mono ?_
 rintro e W' ⟨v',σ,rfl,hv,hr,hx⟩
 refine⟨by rw[hv.inv_bool],hx.os,hx.out,fun B hB=> ?_,hx.froz,hx.td,hx.size⟩
 by_cases hc:zbU W B=true
 ·obtain⟨R,hR,hb,h0⟩:=zfR hc
  obtain⟨-,c,t,fr,hWB,rfl⟩:=(zeY hR).resolve_right (fun h=>by omega)
  have ho:=hr.obj B _ _ (hx.le _ _ hR) (by rw[hfr B hB];exact ziz hWB)
  obtain⟨_,_,c',t',fr',q1,q2,_⟩:=ho
  rcases q2 with⟨q2,_⟩| ⟨q2,_⟩
  ·cases q2
  ·rw[q1,hWB];exact(q2.symm▸rfl:some (Obj.cells c' t' fr')=some (Obj.cells c t fr))
 ·refine hx.frame B hB fun i R hi e=> ?_
  rcases zeY hi with⟨-,c,t,fr,hWB,rfl⟩| ⟨-,hcc⟩
  ·have e:i=B:=e
   subst e
   exact hc (by unfold zbU;rw[hWB])
  ·rw[e] at hcc;exact hc hcc
theorem prim_of {F:FuncId→Option ze} (hmix:P.follows .mixedOrders=true) (hF: ∀g cf,F g=some cf→FnOk P g cf) {g:FuncId} {fn:Func} {cf0:ze} (hfn:P.funcs[g]? =some fn) (hcf:z8 P fn=some (zfi cf0)) {b:Bool} {n:Nat} {h':H}
 (he:E F n (.call (.func (.func g) #[] #[]) [] .empty)=some (.val (.bool b) h')):FnOk P g (zim b):=by
 refine .inr (.inl ⟨fn,cf0,b,hfn,hcf,rfl,fun w=> ?_⟩)
 have hr:HR P (fun _=>none) H.empty w:=⟨fun _ _ _ h=>(by cases h),fun i _=>⟨rfl,PT.get_nil _⟩,fun _ _ _ _ h=>(by cases h),fun _ _ h=>(by cases h),fun i _ _ h=>by rw[H.get_empty] at h;cases h⟩
 refine(ziI hmix hF he (args':= #[]) ⟨rfl,fun j x y hx=>by simp at hx⟩ hr).mono ?_
 rintro e w' ⟨v',σ,rfl,hv,-,hx⟩
 exact⟨by rw[hv.inv_bool],hx.os,hx.out,fun B hB=>hx.frame B hB fun _ _ h=>(by cases h),hx.froz,hx.td,hx.size⟩
section
open Go.ChangeShapes Go.WideShapes Go.RowKit
variable {H:Type} {enc:TypeId×Value→H}
theorem Same.kept {W W':World} (h:Same W W') (may:MemPlace→Prop):W.keptBut W' may:=by
 refine⟨h.os,h.out,fun i hi=> ?_⟩
 rw[h.heap i hi]
 cases ho:W.heap[i]? with
 |none=>trivial
 |some o=>
  cases o with
  |cells c t fr=>exact⟨rfl,rfl,rfl,fun _ _=>rfl⟩
  |map es c=>exact .inr ⟨rfl,rfl⟩
  |_=>rfl
theorem Same.at {W W':World} (h:Same W W') {p:MemPlace} (hp:p.block<W.heap.size):W.sameAt W' p:=by
 cases p with
 |cell b off=>
  show W'.cell? ⟨b,off,none⟩=W.cell? ⟨b,off,none⟩
  have:=h.heap b hp
  simp only[World.cell?,this]
 |map b=>exact h.heap b hp
theorem zhl (hl:laidOutB P=true) {W W':World} {sp':Nat→Bool} (hs:Same W W'): ∀{ts:List TypeId} {vs:List Value} {ds:List (DataW H)} {ps:List MemPlace},(∀t∈ts,P.readableRec t=true∧t<P.types.size)→
 DataW.TrodAll enc P W 0 (fun _=>true) true ts vs ds ps→(∀p∈ps,p.block<W.heap.size)→(∀p∈ps,sp' p.block=true)→DataW.TrodAll enc P W' 0 sp' true ts vs ds ps
 | [],vs,ds,ps,_,h,_,_=>by
   obtain⟨rfl,rfl,rfl⟩:=trodAll_nil h
   exact trodAll_mk0
 |t::ts,vs,ds,ps,ht,h,hlt,hsp=>by
  obtain⟨v,vs',d,ds',p,q,rfl,rfl,rfl,h1,h2⟩:=trodAll_cons h
  obtain⟨r1,r2⟩:=ht t (by simp)
  exact trodAll_cons_mk (WideElems.Trod_stays hl r1 r2 h1 (fun x hx=>hs.at (hlt x (by simp[hx]))) (fun x hx=>hsp x (by simp[hx])))
   (zhl hl hs (fun t ht'=>ht t (by simp[ht'])) h2 (fun x hx=>hlt x (by simp[hx])) (fun x hx=>hsp x (by simp[hx])))
theorem post_kept {f:Func} {s:ChangeSpec} {apart fresh handsOn again:Bool} {W W':World} {args:Array Value} {v:Value} {ds gs:List (DataW H)} {before pa pv:List MemPlace}
 (hW:DataW.Whole enc P f.params.toList s.vars apart W args.toList ds gs before)
 (hres: ∀(b:Nat) (sp:Nat→Bool) (hd:Bool),DataW.TrodAll enc P W' b sp hd f.resultTypes.toList (v.resultList f.resultTypes.size) (s.fn H (ds++gs)).results [])
 (hargs: ∀sp:Nat→Bool,(∀p∈before,sp p.block=true)→DataW.TrodAll enc P W' 0 sp true f.params.toList args.toList (s.fn H (ds++gs)).args pa)
 (hvars: ∀sp:Nat→Bool,(∀p∈before,sp p.block=true)→DataW.TrodVars enc P W' sp s.vars (s.fn H (ds++gs)).vars pv)
 (hps:before=pa++pv) (hk:W.keptBut W' (· ∈before)) (hfz: ∀a:Addr,a.block<W.heap.size→W'.frozen? a=W.frozen? a)
 (hok: ∀(j:Nat) (t:TypeId) (r:Value),f.resultTypes[j]? =some t→(v.resultList f.resultTypes.size)[j]? =some r→Value.okWide P W' .any 0 t r):
 s.post enc P f apart fresh handsOn again W args v W':=by
 refine⟨ds,gs,before,[],pa,pv,hW,hres _ _ _,hargs _ fun p hp=>by simpa using hW.lt p hp,hvars _ fun p hp=>by simpa using hW.lt p hp,World.keptBut_mono (fun p hp=>⟨hp,?_⟩) hk,fun _=> ?_⟩
 ·rw[hps,List.mem_append] at hp
  exact Or.inr hp
 ·have hlt:=hW.lt
  obtain⟨_,_,_,_,_,hz,hn⟩:=hW
  refine⟨hok,_,_,([]++pa)++pv,⟨[]++pa,pv,trodAll_append (hargs _ (fun _ _=>rfl)) (hres _ _ _),hvars _ (fun _ _=>rfl),rfl,fun b off hp=> ?_,fun ha=> ?_⟩,fun p hp _=> ?_⟩
  ·have hb:MemPlace.cell b off∈before:=by rw[hps];simpa using hp
   rw[hfz ⟨b,off,none⟩ (hlt _ hb)]
   exact hz b off hb
  ·have:=hn ha
   rw[hps] at this
   simpa using this
  ·rw[hps]
   simpa using hp
theorem law_post {s:ChangeSpec} {fn:Func} {apart fresh handsOn again:Bool} {W W':World} {args:Array Value} {ds gs:List (DataW H)} {before:List MemPlace} {t:TypeId} (hW:DataW.Whole enc P fn.params.toList s.vars apart W args.toList ds gs before)
 (hvars:s.vars=[]) (hspec:s.fn H (ds++gs)={results:=[.lit (.bool true)],args:=ds}) (hres:fn.resultTypes= #[t]) (ht:P.underlying t=some .bool) (hsame:Same W W') (hl:laidOutB P=true) (hr: ∀t∈fn.params.toList,P.readableRec t=true∧t<P.types.size):
 s.post enc P fn apart fresh handsOn again W args (.bool true) W':=by
 have hW':=hW
 obtain⟨p,q,hA,hV,rfl,hfz,hnd⟩:=hW
 rw[hvars] at hV
 obtain⟨rfl,rfl⟩:=trodVars_none hV
 refine post_kept (pa:=p) (pv:=[]) hW' (fun b sp hd=> ?_) (fun sp hsp=> ?_) (fun sp hsp=> ?_) rfl (hsame.kept _) hsame.froz ?_
 ·rw[hspec,hres]
  exact trodAll_mk1 (shut_bool ht true)
 ·rw[hspec]
  exact zhl hl hsame hr hA (fun x hx=>hW'.lt x (by simp[hx])) (fun x hx=>hsp x (by simp[hx]))
 ·rw[hspec,hvars];rfl
 ·exact ok_one hres rfl (okWide_bool_mk ht true)
end
end
end Go.Ideal
namespace Go.Ideal
noncomputable section
variable {P:Program}
def allEq {α:Type} (f:α→α→Bool):List α→List α→Bool
 | [],[]=>true
 |a::l,b::m=>f a b&&allEq f l m
 |_,_=>false
theorem zgv {α:Type} {f:α→α→Bool} (hf: ∀a b,f a b=true→a=b): ∀{l m:List α},allEq f l m=true→l=m
 | [],[],_=>rfl
 | [],_::_,h=>by cases h
 |_::_,[],h=>by cases h
 |a::l,b::m,h=>by
  simp only[allEq,Bool.and_eq_true] at h
  rw[hf _ _ h.1,zgv hf h.2]
def eqX:Nat→Value→Value→Bool
 |n+1,.agg a,.agg b=>allEq (eqX n) a.toList b.toList
 |n+1,.tuple a,.tuple b=>allEq (eqX n) a.toList b.toList
 |n+1,.iface t a,.iface u b=>Nat.beq t u&&eqX n a b
 |_,.nilIface,.nilIface=>true
 |_,.func (.func f) a b,.func (.func g) c d=>Nat.beq f g&&(a.isEmpty&&b.isEmpty&&(c.isEmpty&&d.isEmpty))
 |_,a,b=>zgJ a b
theorem zlI: ∀(n:Nat) (a b:Value),eqX n a b=true→a=b:=by
 intro n
 induction n with
 |zero=>
  intro a b h
  unfold eqX at h
  split at h
  ·rename_i e;exact absurd e (by simp)
  ·rename_i e;exact absurd e (by simp)
  ·rename_i e;exact absurd e (by simp)
  ·rfl
  ·simp only[Bool.and_eq_true,Array.isEmpty_iff] at h
   obtain⟨h1,⟨h2,h3⟩,h4,h5⟩:=h
   rw[Nat.eq_of_beq_eq_true h1,h2,h3,h4,h5]
  ·exact zhO h
 |succ n ih=>
  intro a b h
  unfold eqX at h
  split at h
  ·rename_i e;cases e;rw[Array.toList_inj.1 (zgv ih h)]
  ·rename_i e;cases e;rw[Array.toList_inj.1 (zgv ih h)]
  ·rename_i e;cases e;rw[Bool.and_eq_true] at h;rw[Nat.eq_of_beq_eq_true h.1,ih _ _ h.2]
  ·rfl
  ·simp only[Bool.and_eq_true,Array.isEmpty_iff] at h
   obtain⟨h1,⟨h2,h3⟩,h4,h5⟩:=h
   rw[Nat.eq_of_beq_eq_true h1,h2,h3,h4,h5]
  ·exact zhO h
def eqEnt (a b:Value×Value×Nat):Bool:=eqX 4 a.1 b.1&&(eqX 4 a.2.1 b.2.1&&Nat.beq a.2.2 b.2.2)
theorem eqEnt_eq (a b:Value×Value×Nat) (h:eqEnt a b=true):a=b:=by
 simp only[eqEnt,Bool.and_eq_true] at h
 obtain⟨a1,a2,a3⟩:=a
 obtain⟨b1,b2,b3⟩:=b
 have h1:=zlI _ _ _ h.1
 have h2:=zlI _ _ _ h.2.1
 have h3:=Nat.eq_of_beq_eq_true h.2.2
 simp only at h1 h2 h3
 rw[h1,h2,h3]
def eqObj:IObj→IObj→Bool
 |.cells a e,.cells b f=>Nat.beq e f&&allEq (eqX 4) a b
 |.map a c,.map b d=>Nat.beq c d&&allEq eqEnt a b
 |.glob b x,.glob c y=>Nat.beq b c&&eqX 4 x y
 |.dead,.dead=>true
 |_,_=>false
theorem eqObj_eq {a b:IObj} (h:eqObj a b=true):a=b:=by
 unfold eqObj at h
 split at h
 ·rw[Bool.and_eq_true] at h;rw[Nat.eq_of_beq_eq_true h.1,zgv (zlI 4) h.2]
 ·rw[Bool.and_eq_true] at h;rw[Nat.eq_of_beq_eq_true h.1,zgv eqEnt_eq h.2]
 ·rw[Bool.and_eq_true] at h;rw[Nat.eq_of_beq_eq_true h.1,zlI _ _ _ h.2]
 ·rfl
 ·cases h
def liveO:IObj→Bool
 |.dead=>false
 |_=>true
def refF (S:Nat→Bool):Nat→Value→Bool
 |n+1,.agg a=>a.toList.all (refF S n)
 |n+1,.tuple a=>a.toList.all (refF S n)
 |n+1,.iface _ v=>refF S n v
 |_,.pointer (some a)=>S a.block
 |_,.slice (some a) _ _=>S a.block
 |_,.map (some i)=>S i
 |_,.func (.func _) a b=>a.isEmpty&&b.isEmpty
 |_,.bool _=>true
 |_,.int _ _=>true
 |_,.string _=>true
 |_,.pointer none=>true
 |_,.slice none _ _=>true
 |_,.map none=>true
 |_,.nilFunc=>true
 |_,.nilIface=>true
 |_,.complex _ _ _=>true
 |_,_=>false
theorem VR.agree {ρ σ:Rho} {S:Nat→Bool} (hS: ∀i,S i=true→σ i=ρ i): ∀(n:Nat) {v v':Value},VR ρ v v'→refF S n v=true→VR σ v v':=by
 intro n
 induction n with
 |zero=>
  intro v v' h hv
  cases h with
  |bool b=>exact .bool b
  |int k n=>exact .int k n
  |str s=>exact .str s
  |ptrNil=>exact .ptrNil
  |ptr h=>exact .ptr ((hS _ hv).trans h)
  |sliceNil=>exact .sliceNil
  |slice h hc hl=>exact .slice ((hS _ hv).trans h) hc hl
  |sliceO h he hl hs hb=>exact .sliceO ((hS _ hv).trans h) he hl hs hb
  |sliceE h he hb=>exact .sliceE ((hS _ hv).trans h) he hb
  |sliceD h hm=>exact .sliceD ((hS _ hv).trans h) hm
  |sliceR h he hl=>exact .sliceR ((hS _ hv).trans h) he hl
  |mapNil=>exact .mapNil
  |map h=>exact .map ((hS _ hv).trans h)
  |func f ha hb ra rb=>
   have hv:(Array.isEmpty _&&Array.isEmpty _)=true:=hv
   simp only[Bool.and_eq_true,Array.isEmpty_iff] at hv
   obtain⟨rfl,rfl⟩:=hv
   exact .func f ha hb (fun j x y hx=>by simp at hx) (fun j x y hx=>by simp at hx)
  |yield h=>cases hv
  |nilFunc=>exact .nilFunc
  |nilIface=>exact .nilIface
  |iface t h=>cases hv
  |agg ha ra=>cases hv
  |tuple ha ra=>cases hv
 |succ n ih=>
  intro v v' h hv
  cases h with
  |bool b=>exact .bool b
  |int k n=>exact .int k n
  |str s=>exact .str s
  |ptrNil=>exact .ptrNil
  |ptr h=>exact .ptr ((hS _ hv).trans h)
  |sliceNil=>exact .sliceNil
  |slice h hc hl=>exact .slice ((hS _ hv).trans h) hc hl
  |sliceO h he hl hs hb=>exact .sliceO ((hS _ hv).trans h) he hl hs hb
  |sliceE h he hb=>exact .sliceE ((hS _ hv).trans h) he hb
  |sliceD h hm=>exact .sliceD ((hS _ hv).trans h) hm
  |sliceR h he hl=>exact .sliceR ((hS _ hv).trans h) he hl
  |mapNil=>exact .mapNil
  |map h=>exact .map ((hS _ hv).trans h)
  |func f ha hb ra rb=>
   have hv:(Array.isEmpty _&&Array.isEmpty _)=true:=hv
   simp only[Bool.and_eq_true,Array.isEmpty_iff] at hv
   obtain⟨rfl,rfl⟩:=hv
   exact .func f ha hb (fun j x y hx=>by simp at hx) (fun j x y hx=>by simp at hx)
  |yield h=>cases hv
  |nilFunc=>exact .nilFunc
  |nilIface=>exact .nilIface
  |iface t h=>exact .iface t (ih h hv)
  |agg ha ra=>
   exact .agg ha (fun j x y hx hy=>ih (ra j x y hx hy) (List.all_eq_true.1 (show(Array.toList _).all (refF S n)=true from hv) x (Array.mem_toList_iff.2 (Array.mem_of_getElem? hx))))
  |tuple ha ra=>
   exact .tuple ha (fun j x y hx hy=>ih (ra j x y hx hy) (List.all_eq_true.1 (show(Array.toList _).all (refF S n)=true from hv) x (Array.mem_toList_iff.2 (Array.mem_of_getElem? hx))))
def refO (S:Nat→Bool):IObj→Bool
 |.cells cs _=>cs.all (refF S 4)
 |.map es _=>es.all fun e=>refF S 4 e.1&&refF S 4 e.2.1
 |.glob _ _=>true
 |.dead=>true
 |.loop _ _ _ _=>false
theorem OR.agree {ρ σ:Rho} {S:Nat→Bool} (hS: ∀i,S i=true→σ i=ρ i) {w:World} {R:RB} {o:IObj} (h:OR P ρ w R o) (ho:refO S o=true):OR P σ w R o:=by
 cases o with
 |cells cs esz=>
  obtain⟨h1,h2,c,t,fr,h3,h7,h4,h5,h6⟩:=h
  exact⟨h1,h2,c,t,fr,h3,h7,h4,h5,fun j v hj=>let⟨v',a,b⟩:=h6 j v hj;⟨v',a,b.imp id (fun b=>b.agree hS 4 (List.all_eq_true.1 ho v (List.mem_of_getElem? hj)))⟩⟩
 |map es clock=>
  obtain⟨es',h1,h2,h3⟩:=h
  refine⟨es',h1,h2,fun j e hj=> ?_⟩
  obtain⟨e',a,b,c,d⟩:=h3 j e hj
  have:=List.all_eq_true.1 ho e (List.mem_of_getElem? hj)
  rw[Bool.and_eq_true] at this
  exact⟨e',a,b.agree hS 4 this.1,c.agree hS 4 this.2,d⟩
 |glob b x=>exact h
 |loop _ _ _ _=>cases ho
 |dead=>trivial
theorem VRL.agree {ρ σ:Rho} {S:Nat→Bool} (hS: ∀i,S i=true→σ i=ρ i) {xs ys:List Value} (h:VRL ρ xs ys) (hx:xs.all (refF S 4)=true):VRL σ xs ys:=
 ⟨h.1,fun j x y h1 h2=>(h.2 j x y h1 h2).agree hS 4 (List.all_eq_true.1 hx x (List.mem_of_getElem? h1))⟩
structure zcU where
 args:List Value
 next:Nat
 pre:List (Nat×IObj)
 val:Value
 next':Nat
 post:List (Nat×IObj)
def zjR (l:List (Nat×IObj)) (t:PT IObj):PT IObj:=List.rec (motive:=fun _=>PT IObj) t (fun x _ ih=>ih.set (bits x.1) x.2) l
def matchH (h:H) (l:List (Nat×IObj)):Bool:=l.all fun x=>match h.get x.1 with
 |some o=>eqObj o x.2
 |none=>false
def zbr (l:List (Nat×IObj)) (i:Nat):Bool:=l.any fun x=>Nat.beq x.1 i
def zcU.fits (p:zcU) (args:List Value) (h:H):Bool:=Nat.beq h.next p.next&&(allEq (eqX 4) args p.args&&matchH h p.pre)
def zcU.out (p:zcU) (h:H):Value×H:=(p.val,⟨p.next',zjR p.post h.mem⟩)
def zeW (l:List zcU) (args:List Value) (h:H):Option (Value×H):=
 List.rec (motive:=fun _=>Option (Value×H)) none (fun p _ ih=>match p.fits args h with|true=>some (p.out h)|false=>ih) l
def zcU.start (p:zcU):H:=⟨p.next,zjR p.pre .nil⟩
def zcU.ends (p:zcU):Option Out→Bool
 |some (.val v h)=>eqX 4 v p.val&&(Nat.beq h.next p.next'&&matchH h p.post)
 |_=>false
def zcU.runs (F:FuncId→Option ze) (n:Nat) (g:FuncId) (p:zcU):Bool:=p.ends (E F n (.call (.func (.func g) #[] #[]) p.args p.start))
def zcU.good (p:zcU):Bool:=
 Nat.ble p.next p.next'&&(p.pre.all (fun x=>Nat.blt x.1 p.next&&zbr p.post x.1)&&(p.post.all (fun x=>zbr p.pre x.1||(Nat.ble p.next x.1&&Nat.blt x.1 p.next'))&&
 (p.args.all (refF (zbr p.pre) 4)&&(p.pre.all (fun x=>liveO x.2&&refO (zbr p.pre) x.2)&&(refF (zbr p.post) 4 p.val&&p.post.all (fun x=>refO (zbr p.post) x.2))))))
theorem hasId_iff {l:List (Nat×IObj)} {i:Nat}:zbr l i=true↔ ∃o,(i,o)∈l:=by
 unfold zbr
 rw[List.any_eq_true]
 constructor
 ·rintro⟨⟨j,o⟩,h1,h2⟩;exact⟨o,by rw[←Nat.eq_of_beq_eq_true h2];exact h1⟩
 ·rintro⟨o,h⟩;exact⟨(i,o),h,Nat.beq_refl i⟩
theorem zlm {l:List (Nat×IObj)} {t:PT IObj} {i:Nat} (h:zbr l i=false):(zjR l t).get (bits i)=t.get (bits i):=by
 induction l with
 |nil=>rfl
 |cons x l ih=>
  have h':(Nat.beq x.1 i||zbr l i)=false:=h
  rw[Bool.or_eq_false_iff] at h'
  show((zjR l t).set (bits x.1) x.2).get (bits i)=_
  rw[PT.get_set_bits,if_neg (by rintro rfl;rw[Nat.beq_refl] at h';cases h'.1),ih h'.2]
theorem setAll_in {l:List (Nat×IObj)} {t:PT IObj} {i:Nat} (h:zbr l i=true): ∃o,(i,o)∈l∧(zjR l t).get (bits i)=some o:=by
 induction l with
 |nil=>cases h
 |cons x l ih=>
  have e:(zjR (x::l) t).get (bits i)=if x.1=i then some x.2 else(zjR l t).get (bits i):=PT.get_set_bits _ _ _ _
  rw[e]
  by_cases hi:x.1=i
  ·rw[if_pos hi];exact⟨x.2,by subst hi;simp,rfl⟩
  ·rw[if_neg hi]
   have h':(Nat.beq x.1 i||zbr l i)=true:=h
   rw[Bool.or_eq_true] at h'
   obtain⟨o,h1,h2⟩:=ih (h'.resolve_left fun e=>hi (Nat.eq_of_beq_eq_true e))
   exact⟨o,by simp[h1],h2⟩
theorem zly {h:H} {l:List (Nat×IObj)} (hm:matchH h l=true) {i:Nat} {o:IObj} (hi:(i,o)∈l):h.get i=some o:=by
 have:=List.all_eq_true.1 hm _ hi
 dsimp only at this
 split at this
 ·rename_i o' ho;have e:=eqObj_eq this;subst e;exact ho
 ·cases this
theorem piece_calls {F:FuncId→Option ze} (hmix:P.follows .mixedOrders=true) (hF: ∀g cf,F g=some cf→FnOk P g cf) {n:Nat} {g:FuncId} {p:zcU} (hg:p.good=true) (hrun:p.runs F n g=true)
 {args:List Value} {h:H} (hfit:p.fits args h=true) {ρ:Rho} {args':Array Value} {w:World} (ra:VRL ρ args args'.toList) (hr:HR P ρ h w):
 Calls P g args' w (zhi P ρ w (.val (p.out h).1 (p.out h).2)):=by
 simp only[zcU.good,Bool.and_eq_true] at hg
 obtain⟨g1,g2,g3,g4,g5,g6,g7⟩:=hg
 simp only[zcU.fits,Bool.and_eq_true] at hfit
 obtain⟨f1,f2,f3⟩:=hfit
 have f2:=zgv (zlI 4) f2
 subst f2
 have f1:=Nat.eq_of_beq_eq_true f1
 have g1:=Nat.le_of_ble_eq_true g1
 have preLt: ∀i,zbr p.pre i=true→i<p.next∧zbr p.post i=true:=fun i hi=>by
  obtain⟨o,ho⟩:=hasId_iff.1 hi
  have:=List.all_eq_true.1 g2 _ ho
  rw[Bool.and_eq_true] at this
  exact⟨Nat.le_of_ble_eq_true this.1,this.2⟩
 have postIn: ∀i,zbr p.post i=true→zbr p.pre i=true∨(p.next≤i∧i<p.next'):=fun i hi=>by
  obtain⟨o,ho⟩:=hasId_iff.1 hi
  have:=List.all_eq_true.1 g3 _ ho
  rw[Bool.or_eq_true,Bool.and_eq_true] at this
  exact this.imp id fun h=>⟨Nat.le_of_ble_eq_true h.1,Nat.le_of_ble_eq_true h.2⟩
 have preGet: ∀i,zbr p.pre i=true→ ∃o,h.get i=some o∧o≠ .dead∧p.start.get i=some o∧refO (zbr p.pre) o=true:=fun i hi=>by
  obtain⟨o,h1,h2⟩:=setAll_in (t:=.nil) hi
  have q1:=zly f3 h1
  have q4:=List.all_eq_true.1 g5 _ h1
  rw[Bool.and_eq_true] at q4
  exact⟨o,q1,by rintro rfl;exact Bool.false_ne_true q4.1,h2,q4.2⟩
 have preNo: ∀i,zbr p.pre i=false→p.start.get i=none:=fun i hi=>(zlm hi).trans (PT.get_nil _)
 obtain⟨ρ',hρ'⟩: ∃ρ':Rho,∀i,ρ' i=if zbr p.pre i=true then ρ i else none:=⟨_,fun _=>rfl⟩
 have agr: ∀i,zbr p.pre i=true→ρ' i=ρ i:=fun i hi=>by rw[hρ',if_pos hi]
 have sub: ∀i R,ρ' i=some R→zbr p.pre i=true∧ρ i=some R:=fun i R hi=>by
  rw[hρ'] at hi
  split at hi
  ·rename_i hc;exact⟨hc,hi⟩
  ·cases hi
 have hr':HR P ρ' p.start w:={
  obj:=fun i R o hi ho=>by
   obtain⟨hc,hi⟩:=sub i R hi
   obtain⟨o',q1,q2,q3,q4⟩:=preGet i hc
   have e:o'=o:=Option.some.inj (q3.symm.trans ho)
   subst e
   exact(hr.obj i R o' hi q1).agree agr q4
  nxt:=fun i hi=>by
   have hi:p.next≤i:=hi
   have hc:zbr p.pre i=false:=by
    rw[Bool.eq_false_iff];intro hc;have:=(preLt i hc).1;omega
   exact⟨by rw[hρ',if_neg (by rw[hc];simp)],preNo i hc⟩
  sep:=fun i j R S hi hj _ _ e=>by
   obtain⟨hc,hi⟩:=sub i R hi
   obtain⟨hd,hj⟩:=sub j S hj
   obtain⟨o,q1,q2,-,-⟩:=preGet i hc
   obtain⟨o',r1,r2,-,-⟩:=preGet j hd
   exact hr.sep i j R S hi hj ⟨o,q1,q2⟩ ⟨o',r1,r2⟩ e
  blk:=fun i R hi=>hr.blk i R (sub i R hi).2
  glb:=fun i b x hi=>by
   cases hc:zbr p.pre i with
   |false=>rw[preNo i hc] at hi;cases hi
   |true=>
    obtain⟨o',q1,-,q3,-⟩:=preGet i hc
    have e:o'=.glob b x:=Option.some.inj (q3.symm.trans hi)
    subst e
    obtain⟨R,hR⟩:=hr.glb i b x q1
    exact⟨R,(agr i hc).trans hR⟩}
 have ra':VRL ρ' p.args args'.toList:=ra.agree agr g4
 unfold zcU.runs at hrun
 generalize he:E F n (.call (.func (.func g) #[] #[]) p.args p.start)=out at hrun
 unfold zcU.ends at hrun
 split at hrun
 ·rename_i v h2
  simp only[Bool.and_eq_true] at hrun
  obtain⟨e1,e2,e3⟩:=hrun
  obtain rfl:=zlI _ _ _ e1
  have e2:=Nat.eq_of_beq_eq_true e2
  refine(ziI hmix hF he ra' hr').mono ?_
  rintro e w' ⟨v',σ2,rfl,hv,hr2,hx⟩
  obtain⟨σ,hσ⟩: ∃σ:Rho,∀i,σ i=if zbr p.post i=true then σ2 i else ρ i:=⟨_,fun _=>rfl⟩
  have agr2: ∀i,zbr p.post i=true→σ i=σ2 i:=fun i hi=>by rw[hσ,if_pos hi]
  have oth: ∀i,zbr p.post i=false→σ i=ρ i:=fun i hi=>by rw[hσ,if_neg (by rw[hi];simp)]
  have le:zhZ ρ σ:=fun i R hi=>by
   cases hc:zbr p.post i with
   |false=>rw[oth i hc];exact hi
   |true=>
    rw[agr2 i hc]
    rcases postIn i hc with hp| ⟨hp,-⟩
    ·exact hx.le i R ((agr i hp).trans hi)
    ·have:=(hr.nxt i (by omega)).1;rw[hi] at this;cases this
  have postGet: ∀i,zbr p.post i=true→ ∃o,h2.get i=some o∧(p.out h).2.get i=some o∧refO (zbr p.post) o=true:=fun i hi=>by
   obtain⟨o,h1,h3⟩:=setAll_in (t:=h.mem) hi
   have q1:=zly e3 h1
   exact⟨o,q1,h3,List.all_eq_true.1 g7 _ h1⟩
  have postNo: ∀i,zbr p.post i=false→(p.out h).2.get i=h.get i:=fun i hi=>zlm hi
  have apart: ∀i R j S,zbr p.post i=true→σ2 i=some R→zbr p.post j=false→ρ j=some S→zeH h j→R.blk≠S.blk:=fun i R j S hi hiR hj hjS aj e=>by
   rcases hx.fresh i R hiR with⟨k,T,hk,hT⟩|hb
   ·obtain⟨hc,hk⟩:=sub k T hk
    obtain⟨o,q1,q2,-,-⟩:=preGet k hc
    have:=hr.sep k j T S hk hjS ⟨o,q1,q2⟩ aj (hT.trans e)
    subst this
    rw[(preLt k hc).2] at hj;cases hj
   ·have:=hr.blk j S hjS;omega
  have hrN:HR P σ (p.out h).2 w':={
   obj:=fun i R o hi ho=>by
    cases hc:zbr p.post i with
    |true=>
     rw[agr2 i hc] at hi
     obtain⟨o',q1,q3,q4⟩:=postGet i hc
     have e:o'=o:=Option.some.inj (q3.symm.trans ho)
     subst e
     exact(hr2.obj i R o' hi q1).agree agr2 q4
    |false=>
     rw[oth i hc] at hi
     rw[postNo i hc] at ho
     by_cases hd:o=.dead
     ·subst hd;trivial
     ·refine(hr.obj i R o hi ho).mono le (hx.frame _ (hr.blk i R hi) fun j S hj e=> ?_)
      obtain⟨hp,hj⟩:=sub j S hj
      obtain⟨o',q1,q2,-,-⟩:=preGet j hp
      have:=hr.sep j i S R hj hi ⟨o',q1,q2⟩ ⟨o,ho,hd⟩ e
      subst this
      rw[(preLt j hp).2] at hc;cases hc
   nxt:=fun i hi=>by
    have hi:p.next'≤i:=hi
    have hc:zbr p.post i=false:=by
     rw[Bool.eq_false_iff];intro hc
     rcases postIn i hc with hp|hp
     ·have:=(preLt i hp).1;omega
     ·omega
    rw[oth i hc,postNo i hc]
    exact hr.nxt i (by omega)
   sep:=fun i j R S hi hj ai aj e=>by
    have al: ∀k,zbr p.post k=true→zeH (p.out h).2 k→zeH h2 k:=fun k hk ⟨o,h1,h3⟩=>by
     obtain⟨o',q1,q2,-⟩:=postGet k hk
     have e:o'=o:=Option.some.inj (q2.symm.trans h1)
     subst e;exact⟨o',q1,h3⟩
    have al': ∀k,zbr p.post k=false→zeH (p.out h).2 k→zeH h k:=fun k hk ⟨o,h1,h3⟩=>⟨o,(postNo k hk).symm.trans h1,h3⟩
    cases hc:zbr p.post i with
    |true=>
     rw[agr2 i hc] at hi
     cases hd:zbr p.post j with
     |true=>rw[agr2 j hd] at hj;exact hr2.sep i j R S hi hj (al i hc ai) (al j hd aj) e
     |false=>rw[oth j hd] at hj;exact absurd e (apart i R j S hc hi hd hj (al' j hd aj))
    |false=>
     rw[oth i hc] at hi
     cases hd:zbr p.post j with
     |true=>rw[agr2 j hd] at hj;exact absurd e.symm (apart j S i R hd hj hc hi (al' i hc ai))
     |false=>rw[oth j hd] at hj;exact hr.sep i j R S hi hj (al' i hc ai) (al' j hd aj) e
   blk:=fun i R hi=>by
    cases hc:zbr p.post i with
    |true=>rw[agr2 i hc] at hi;exact hr2.blk i R hi
    |false=>rw[oth i hc] at hi;exact Nat.lt_of_lt_of_le (hr.blk i R hi) hx.size
   glb:=fun i b x hi=>by
    cases hc:zbr p.post i with
    |true=>
     obtain⟨o',q1,q3,-⟩:=postGet i hc
     have e:o'=.glob b x:=Option.some.inj (q3.symm.trans hi)
     subst e
     obtain⟨R,hR⟩:=hr2.glb i b x q1
     exact⟨R,(agr2 i hc).trans hR⟩
    |false=>
     rw[postNo i hc] at hi
     obtain⟨R,hR⟩:=hr.glb i b x hi
     exact⟨R,(oth i hc).trans hR⟩}
  refine⟨_,_,v',σ,rfl,rfl,hv.agree agr2 4 g6,hrN,le,hx.size,fun i R hi=> ?_,fun B hB hn=>hx.frame B hB fun i R hi=>hn i R (sub i R hi).2,hx.loops,hx.os,hx.out,hx.froz,hx.td⟩
  cases hc:zbr p.post i with
  |true=>
   rw[agr2 i hc] at hi
   rcases hx.fresh i R hi with⟨j,S,hj,e⟩|hb
   ·exact .inl ⟨j,S,(sub j S hj).2,e⟩
   ·exact .inr hb
  |false=>rw[oth i hc] at hi;exact .inl ⟨i,R,hi,rfl⟩
 ·cases hrun
theorem pieces_ok (hmix:P.follows .mixedOrders=true) {g:FuncId} {fn:Func} {cf0:ze} (hfn:P.funcs[g]? =some fn) (hcf:z8 P fn=some (zfi cf0))
 {l:List zcU} (hl: ∀p∈l,p.good=true∧ ∃F n,(∀g cf,F g=some cf→FnOk P g cf)∧p.runs F n g=true):FnOk P g (zk3 (zeW l) cf0):=by
 refine .inr (.inr (.inr ⟨_,fn,cf0,rfl,⟨fun args w=> ?_,fun args h v h' hp ρ args' w ra hr=> ?_⟩,hfn,hcf⟩))
 ·obtain⟨hname,c,hbody,-⟩:=zbM hcf
  have hne: ¬fn.name= "runtime.NumGoroutine" :=by simpa using hname
  simp[callFunc,hfn,hne,hbody]
 ·induction l with
  |nil=>cases hp
  |cons p l ih=>
   have hp:(match p.fits args h with|true=>some (p.out h)|false=>zeW l args h)=some (v,h'):=hp
   split at hp
   ·rename_i hfit
    obtain⟨q1,F,n,hF,q2⟩:=hl p (by simp)
    have e:p.out h=(v,h'):=Option.some.inj hp
    have:=piece_calls hmix hF q1 q2 hfit ra hr
    rw[e] at this;exact this
   ·exact ih (fun p hp=>hl p (by simp[hp])) hp
def lookE (l:List (Nat×ze)) (g:Nat):Option ze:=List.rec (motive:=fun _=>Option ze) none (fun p _ ih=>match Nat.beq p.1 g with|true=>some p.2|false=>ih) l
theorem zhC: ∀{t:List (Nat×ze)} {g:Nat} {cf:ze},lookE t g=some cf→ ∃p∈t,p.1=g∧p.2=cf
 | [],g,x,h=>by cases h
 |p::t,g,x,h=>by
  have h:(match Nat.beq p.1 g with|true=>some p.2|false=>lookE t g)=some x:=h
  split at h
  ·rename_i e;cases h;exact⟨p,by simp,Nat.eq_of_beq_eq_true e,rfl⟩
  ·obtain⟨q,hq,e⟩:=zhC h;exact⟨q,by simp[hq],e⟩
def overF (l:List (Nat×ze)) (F:FuncId→Option ze):FuncId→Option ze:=fun g=>match lookE l g with
 |some cf=>some cf
 |none=>F g
theorem over_ok {l:List (Nat×ze)} {F:FuncId→Option ze} (hl: ∀p∈l,FnOk P p.1 p.2) (hF: ∀g cf,F g=some cf→FnOk P g cf): ∀g cf,overF l F g=some cf→FnOk P g cf:=by
 intro g cf h
 unfold overF at h
 split at h
 ·rename_i c hc;cases h;obtain⟨p,hp,rfl,rfl⟩:=zhC hc;exact hl p hp
 ·exact hF g cf h
theorem look_ok {l:List (Nat×ze)} (hl: ∀p∈l,FnOk P p.1 p.2): ∀g cf,lookE l g=some cf→FnOk P g cf:=fun g cf h=>by
 obtain⟨p,hp,rfl,rfl⟩:=zhC h;exact hl p hp
def endsTrue:Option Out→Bool
 |some (.val (.bool true) _)=>true
 |_=>false
theorem endsTrue_some {o:Option Out} (h:endsTrue o=true): ∃h',o=some (.val (.bool true) h'):=by
 unfold endsTrue at h
 split at h
 ·exact⟨_,rfl⟩
 ·cases h
end
end Go.Ideal
namespace Go.Ideal
open Go
variable {P:Program}
def AllC (P:Program) (l:List (Nat×ze)):Prop:=l.map (fun x=>(P.funcs[x.1]?).bind (z8 P))=l.map fun x=>some (zfi x.2)
theorem AllC.mem {l:List (Nat×ze)} (h:AllC P l): ∀p∈l,∃fn,P.funcs[p.1]? =some fn∧z8 P fn=some (zfi p.2):=by
 unfold AllC at h
 induction l with
 |nil=>intro p hp;cases hp
 |cons x l ih=>
  rw[List.map_cons,List.map_cons,List.cons.injEq] at h
  intro p hp
  rcases List.mem_cons.1 hp with rfl|hp
  ·cases e:P.funcs[p.1]? with
   |none=>rw[e] at h;cases h.1
   |some fn=>rw[e] at h;exact⟨fn,rfl,h.1⟩
  ·exact ih h.2 p hp
theorem AllC.at {l:List (Nat×ze)} (h:AllC P l) {g:Nat} {cf:ze} (hg:lookE l g=some cf): ∃fn,P.funcs[g]? =some fn∧z8 P fn=some (zfi cf):=by
 obtain⟨p,hp,rfl,rfl⟩:=zhC hg
 exact h.mem p hp
theorem AllC.ok {l:List (Nat×ze)} (h:AllC P l): ∀p∈l,FnOk P p.1 p.2:=fun p hp=>.inl (h.mem p hp)
theorem AllC.app {l m:List (Nat×ze)} (h:AllC P l) (h2:AllC P m):AllC P (l++m):=by
 unfold AllC at*
 rw[List.map_append,List.map_append,h,h2]
theorem AllC.pieces (hmix:P.follows .mixedOrders=true) {l:List (Nat×ze)} (h:AllC P l) {g:Nat} {cf:ze} (hg:lookE l g=some cf) {ps:List zcU}
 (hl: ∀p∈ps,p.good=true∧ ∃F n,(∀g cf,F g=some cf→FnOk P g cf)∧p.runs F n g=true):FnOk P g (zk3 (zeW ps) cf):=by
 obtain⟨fn,h1,h2⟩:=h.at hg
 exact pieces_ok hmix h1 h2 hl
end Go.Ideal
namespace Go.Ideal.Q
noncomputable section
def tab0:List (Nat×ze):=[(3,f_F),(9,f_l),(11,f_bg),(12,f_U),(13,f_Y),(14,f_J),(15,f_i),(16,f_bf),(26,f_v),(37,f_x),(38,f_n),(39,f_d),(40,f_a),(41,f_4),(42,f_bC),(43,f_X),(44,f_c),(45,f_q),(46,f_b),(47,f_y),(48,f_t),(54,f_0),(55,f_z),(56,f_H),(57,f_C),(58,f_g),(60,f_bj),(63,f_bo),(64,f_be),(67,f_K)]
def tab1:List (Nat×ze):=[(76,f_bm),(79,f_2),(84,f_5),(85,f_bl),(86,f_bA),(87,f_p),(88,f_bB),(89,f_bz),(90,f_bd),(91,f_bn),(92,f_bt),(93,f_8),(94,f_bp),(95,f_6),(96,f_7),(97,f_bq),(98,f_3),(99,f_bi),(100,f_bh),(101,f_I),(102,f_bk),(103,f_1),(104,f_T),(105,f_G),(106,f_Q),(107,f_P),(108,f_o),(109,f_bc),(110,f_9),(111,f_m)]
def tab2:List (Nat×ze):=[(112,f_r),(113,f_bv),(114,f_W),(115,f_V),(116,f_u),(117,f_w),(118,f_e),(119,f_ba),(120,f_bb),(121,f_O),(122,f_S),(140,f_E),(151,f_Z),(152,f_by),(153,f_M),(154,f_bu),(155,f_L),(156,f_bw),(157,f_A),(158,f_br),(159,f_D),(160,f_bs),(161,f_R),(172,f_s),(173,f_j),(174,f_k),(175,f_f),(176,f_h)]
def tabC:List (Nat×ze):=tab0++tab1++tab2
def tabF:List (Nat×ze):=(10,zim true)::tabC
def F:FuncId→Option ze:=lookE tabF
theorem zea:F n_F=some f_F:=by kernel_rfl
theorem zfX:F n_l=some f_l:=by kernel_rfl
theorem zfW:F n_bx=some (zim true):=by kernel_rfl
theorem h_wire_Bytes:F n_bg=some f_bg:=by kernel_rfl
theorem zfV:F n_U=some f_U:=by kernel_rfl
theorem h_wire_Parcel:F n_Y=some f_Y:=by kernel_rfl
theorem zfu:F n_J=some f_J:=by kernel_rfl
theorem zdI:F n_i=some f_i:=by kernel_rfl
theorem zgz:F n_bf=some f_bf:=by kernel_rfl
theorem zet:F n_v=some f_v:=by kernel_rfl
theorem h_wire_fine:F n_x=some f_x:=by kernel_rfl
theorem h_wire_bytes:F n_n=some f_n:=by kernel_rfl
theorem zgy:F n_d=some f_d:=by kernel_rfl
theorem ze3:F n_a=some f_a:=by kernel_rfl
theorem zk8:F n_4=some f_4:=by kernel_rfl
theorem zku:F n_bC=some f_bC:=by kernel_rfl
theorem h_wire_start:F n_X=some f_X:=by kernel_rfl
theorem zfZ:F n_c=some f_c:=by kernel_rfl
theorem zg1:F n_q=some f_q:=by kernel_rfl
theorem zfs:F n_b=some f_b:=by kernel_rfl
theorem zeu:F n_y=some f_y:=by kernel_rfl
theorem zd9:F n_t=some f_t:=by kernel_rfl
theorem zg5:F n_0=some f_0:=by kernel_rfl
theorem zg4:F n_z=some f_z:=by kernel_rfl
theorem zfU:F n_H=some f_H:=by kernel_rfl
theorem zdb:F n_C=some f_C:=by kernel_rfl
theorem zda:F n_g=some f_g:=by kernel_rfl
theorem h_wire_name:F n_bj=some f_bj:=by kernel_rfl
theorem h_wire_sealed:F n_bo=some f_bo:=by kernel_rfl
theorem h_wire_head:F n_be=some f_be:=by kernel_rfl
theorem ze4:F n_K=some f_K:=by kernel_rfl
theorem h_wire_below:F n_bm=some f_bm:=by kernel_rfl
theorem zdH:F n_2=some f_2:=by kernel_rfl
theorem h_wire_once:F n_5=some f_5:=by kernel_rfl
theorem zkt:F n_bl=some f_bl:=by kernel_rfl
theorem h_wire_fine_1:F n_bA=some f_bA:=by kernel_rfl
theorem zcN:F n_p=some f_p:=by kernel_rfl
theorem h_wire_fine_2:F n_bB=some f_bB:=by kernel_rfl
theorem h_wire_fine_3:F n_bz=some f_bz:=by kernel_rfl
theorem zfr:F n_bd=some f_bd:=by kernel_rfl
theorem zk7:F n_bn=some f_bn:=by kernel_rfl
theorem h_wire_fine_4:F n_bt=some f_bt:=by kernel_rfl
theorem zfq:F n_8=some f_8:=by kernel_rfl
theorem h_wire_value:F n_bp=some f_bp:=by kernel_rfl
theorem zd8:F n_6=some f_6:=by kernel_rfl
theorem zes:F n_7=some f_7:=by kernel_rfl
theorem h_wire_write:F n_bq=some f_bq:=by kernel_rfl
theorem zhH:F n_3=some f_3:=by kernel_rfl
theorem zgA:F n_bi=some f_bi:=by kernel_rfl
theorem zfv:F n_bh=some f_bh:=by kernel_rfl
theorem zg3:F n_I=some f_I:=by kernel_rfl
theorem zhI:F n_bk=some f_bk:=by kernel_rfl
theorem zhG:F n_1=some f_1:=by kernel_rfl
theorem zg2:F n_T=some f_T:=by kernel_rfl
theorem zfS:F n_G=some f_G:=by kernel_rfl
theorem zgw:F n_Q=some f_Q:=by kernel_rfl
theorem zds:F n_P=some f_P:=by kernel_rfl
theorem zc1:F n_o=some f_o:=by kernel_rfl
theorem zfT:F n_bc=some f_bc:=by kernel_rfl
theorem ze5:F n_9=some f_9:=by kernel_rfl
theorem zc9:F n_m=some f_m:=by kernel_rfl
theorem zdt:F n_r=some f_r:=by kernel_rfl
theorem zjb:F n_bv=some f_bv:=by kernel_rfl
theorem h_wire_sum:F n_W=some f_W:=by kernel_rfl
theorem zg6:F n_V=some f_V:=by kernel_rfl
theorem zhJ:F n_u=some f_u:=by kernel_rfl
theorem zc2:F n_w=some f_w:=by kernel_rfl
theorem zdu:F n_e=some f_e:=by kernel_rfl
theorem ziB:F n_ba=some f_ba:=by kernel_rfl
theorem h_wire_number:F n_bb=some f_bb:=by kernel_rfl
theorem zgx:F n_O=some f_O:=by kernel_rfl
theorem zft:F n_S=some f_S:=by kernel_rfl
theorem ze2:F n_E=some f_E:=by kernel_rfl
theorem zcO:F n_Z=some f_Z:=by kernel_rfl
theorem zjc:F n_by=some f_by:=by kernel_rfl
theorem zbG:F n_M=some f_M:=by kernel_rfl
theorem ze1:F n_bu=some f_bu:=by kernel_rfl
theorem zbF:F n_L=some f_L:=by kernel_rfl
theorem ze0:F n_bw=some f_bw:=by kernel_rfl
theorem zbm:F n_A=some f_A:=by kernel_rfl
theorem zdG:F n_br=some f_br:=by kernel_rfl
theorem zbp:F n_D=some f_D:=by kernel_rfl
theorem zd7:F n_bs=some f_bs:=by kernel_rfl
theorem zfY:F n_R=some f_R:=by kernel_rfl
theorem zdr:F n_s=some f_s:=by kernel_rfl
theorem zbW:F n_j=some f_j:=by kernel_rfl
theorem zbV:F n_k=some f_k:=by kernel_rfl
theorem zbs:F n_f=some f_f:=by kernel_rfl
theorem zbA:F n_h=some f_h:=by kernel_rfl
end
end Go.Ideal.Q
namespace Go.Ideal
noncomputable section
@[simp] theorem openCap_le {n:Nat} (h:n<1000000):(n<zg)=True:=eq_true (by unfold zg;omega)
def upS (s:DS):List (Nat×DV)→DS
 | []=>s
 | (q,d)::r=>upS ((bits q,d)::s) r
@[simp] theorem upS_nil (s:DS):upS s []=s:=id rfl
@[simp] theorem upS_cons (s:DS) (q:Nat) (d:DV) (r:List (Nat×DV)):upS s ((q,d)::r)=upS ((bits q,d)::s) r:=id rfl
section
variable {F:FuncId→Option ze} {n0:Nat}
theorem zch.for {σ:Type} {L:List (List Bool)} {b b':CC} {K:KD} {s:DS} {M:VM} (hb:b=b') (U:Nat→σ→List (Nat×DV)) (G:σ→VM) (P:Nat→σ→Prop) (N:Nat) (x0:σ) (hs:s=zbJ L (upS s (U 0 x0))) (hM:M=G x0) (h0:P 0 x0)
 (step: ∀i x,i<N→P i x→(∀x',P (i+1) x'→zch F n0 L b K (zbJ L (upS s (U (i+1) x'))) (G x'))→ @Cd (rD F n0) (.base (LoK F n0 L b K)) b' (zbJ L (zbJ L (upS s (U i x)))) (G x))
 (last: ∀x,P N x→ @Cd (rD F n0) (.base (LoK F n0 L b K)) b' (zbJ L (zbJ L (upS s (U N x)))) (G x)):zch F n0 L b K s M:=by
 have main: ∀m i x,i+m=N→P i x→zch F n0 L b K (zbJ L (upS s (U i x))) (G x):=by
  intro m
  induction m with
  |zero=>intro i x hi hp;obtain rfl:i=N:=by omega
         exact .go hb (last x hp)
  |succ m ih=>intro i x hi hp;exact .go hb (step i x (by omega) hp fun x' hp'=>ih (i+1) x' (by omega) hp')
 have:=main N 0 x0 (by omega) h0
 rw[←hs,←hM] at this
 exact this
theorem zch.while {σ:Type} {L:List (List Bool)} {b b':CC} {K:KD} {s:DS} {M:VM} (hb:b=b') (U:σ→List (Nat×DV)) (G:σ→VM) (P:σ→Prop) (m:σ→Nat) (x0:σ) (hs:s=zbJ L (upS s (U x0))) (hM:M=G x0) (h0:P x0)
 (step: ∀x,P x→(∀x',m x'<m x→P x'→zch F n0 L b K (zbJ L (upS s (U x'))) (G x'))→ @Cd (rD F n0) (.base (LoK F n0 L b K)) b' (zbJ L (zbJ L (upS s (U x)))) (G x)):zch F n0 L b K s M:=by
 have main: ∀n x,m x<n→P x→zch F n0 L b K (zbJ L (upS s (U x))) (G x):=by
  intro n
  induction n with
  |zero=>intro x hx;omega
  |succ n ih=>intro x hx hp;exact .go hb (step x hp fun x' hx' hp'=>ih x' (by omega) hp')
 have:=main (m x0+1) x0 (by omega) h0
 rw[←hs,←hM] at this
 exact this
end
section
variable {F:FuncId→Option ze} {n0:Nat} {M:VM}
end
section
variable {B M:VM} {j:Nat} {o:MO}
end
section
variable {B M:VM} {d:DV} {s:Nat} {rows:List (List DV)}
end
section
variable {B M:VM} {d:DV} {s:Nat} {rows:List (List DV)} {X:RnD} {fr:FrC}
end
end
end Go.Ideal
namespace Go.Ideal.S
structure Sv where
 k:Int
 n:Int
 deriving DecidableEq
def numB (n:Nat):List UInt8:=if n<128 then[UInt8.ofNat n] else UInt8.ofNat (n%128+128)::numB (n / 128)
termination_by n
decreasing_by omega
def zO (l:List Nat):List UInt8:=l.flatMap numB
theorem zgl (n:Nat) (l:List Nat):zO (n::l)=numB n++zO l:=by simp[zO]
theorem numsB_app (l m:List Nat):zO (l++m)=zO l++zO m:=by simp[zO]
theorem zkg (l:List Nat) (n:Nat):zO (l++[n])=zO l++numB n:=by simp[zO]
theorem zbc (n:Nat) (h:n<128^10):(numB n).length≤10:=by
 have key: ∀k n,n<128^(k+1)→(numB n).length≤k+1:=by
  intro k
  induction k with
  |zero=>intro n h;rw[numB,if_pos (by omega)];simp
  |succ k ih=>
   intro n h
   rw[numB]
   split
   ·simp
   ·have:=ih (n / 128) (by rw[Nat.div_lt_iff_lt_mul (by omega)];rw[Nat.pow_succ] at h;exact h)
    simp;omega
 exact key 9 n h
theorem numB_pos (n:Nat):0<(numB n).length:=by
 rw[numB];split<;>simp
def crcB (r:Nat) (top:Bool):Nat:=if top=true then(r*2%65536) ^^^ 4129 else r*2%65536
def crcY (x:Nat):Nat→Nat→Nat
 |0,r=>r
 |k+1,r=>crcY x k (crcB r (decide (r / 32768≠x / 2^k%2)))
def crcN (l:List UInt8):Nat:=l.foldl (fun r x=>crcY x.toNat 8 r) 65535
theorem crcB_lt (r:Nat) (t:Bool):crcB r t<65536:=by
 unfold crcB
 split
 ·exact Nat.xor_lt_two_pow (n:=16) (Nat.mod_lt _ (by omega)) (by omega)
 ·exact Nat.mod_lt _ (by omega)
theorem crcY_lt (x:Nat): ∀k r,r<65536→crcY x k r<65536
 |0,r,h=>h
 |k+1,r,_=>crcY_lt x k _ (crcB_lt _ _)
theorem crcF_lt (l:List UInt8): ∀r,r<65536→l.foldl (fun r x=>crcY x.toNat 8 r) r<65536:=by
 induction l with
 |nil=>intro r h;exact h
 |cons x l ih=>intro r h;exact ih _ (crcY_lt _ _ _ h)
theorem crcN_lt (l:List UInt8):crcN l<65536:=crcF_lt l _ (by omega)
theorem crcN_app (l:List UInt8) (x:UInt8):crcN (l++[x])=crcY x.toNat 8 (crcN l):=by simp[crcN]
def crc (l:List UInt8):List UInt8:=[UInt8.ofNat (crcN l / 256),UInt8.ofNat (crcN l%256)]
def sealB (l:List UInt8):List UInt8:=l++crc l
structure WS where
 t:List Sv
 b:List Nat
def WS.num (w:WS) (n:Nat):WS:=⟨w.t,w.b++[n]⟩
def WS.ment (w:WS) (v:Sv):WS:=if v∈w.t then w else⟨w.t++[v],w.b⟩
def WS.ref (w:WS) (v:Sv):WS:=(w.ment v).num (w.t.idxOf v)
def WS.val (w:WS) (v:Sv):WS:=if v.k≠1 then(w.ment v).num (2*w.t.idxOf v+1) else if 0≤v.n then w.num (4*v.n.toNat) else w.num (4*(-v.n - 1).toNat+2)
def WS.vals (w:WS) (l:List Sv):WS:=l.foldl WS.val (w.num l.length)
def zeq (t:List Sv):List Nat:=t.length::t.flatMap fun v=>[v.k.toNat,v.n.toNat]
def WS.fin (w:WS) (first:UInt8):List UInt8:=sealB (first::zO (zeq w.t)++zO w.b)
def plc (n:Int):Sv:=⟨4,n⟩
def chn (n:Int):Sv:=⟨3,n⟩
def zcI (v:Sv):Prop:=(v.k=2∧0≤v.n∧v.n<12)∨(v.k=3∧0≤v.n∧v.n<60)∨(v.k=4∧0≤v.n∧v.n<24)
def ValV (v:Sv):Prop:=zcI v∨(v.k=1∧ -1000000000≤v.n∧v.n≤1000000000)
def getA:Nat→Nat→Nat→List UInt8→Option (Nat×List UInt8)
 |0,_,_,_=>none
 |_+1,_,_,[]=>none
 |f+1,u,a,x::r=>if x.toNat<128 then some (a+x.toNat*u,r) else getA f (u*128) (a+x.toNat%128*u) r
def getN (l:List UInt8):Option (Nat×List UInt8):=getA 5 1 0 l
def zbz (l:List UInt8):Option (Nat×List UInt8):=(getN l).bind fun x=>if x.1≤x.2.length then some x else none
def z9 (t:List Sv) (k:Int) (l:List UInt8):Option (Int×List UInt8):=(getN l).bind fun x=>(t[x.1]?).bind fun v=>if v.k=k then some (v.n,x.2) else none
def valN (t:List Sv) (l:List UInt8):Option (Sv×List UInt8):=(getN l).bind fun x=>if x.1%2=1 then(t[x.1 / 2]?).map fun v=>(v,x.2) else if x.1%4=0 then some (⟨1,((x.1 / 4:Nat):Int)⟩,x.2) else some (⟨1,-((x.1 / 4:Nat):Int) - 1⟩,x.2)
def repN {α:Type} (f:List UInt8→Option (α×List UInt8)):Nat→List α→List UInt8→Option (List α×List UInt8)
 |0,a,l=>some (a,l)
 |n+1,a,l=>(f l).bind fun x=>repN f n (a++[x.1]) x.2
def zbw (t:List Sv) (l:List UInt8):Option (List Sv×List UInt8):=(zbz l).bind fun x=>repN (valN t) x.1 [] x.2
def zd6 (l:List UInt8):Option (Sv×List UInt8):=(getN l).bind fun x=>(getN x.2).map fun y=>(⟨x.1,y.1⟩,y.2)
def tabN (l:List UInt8):Option (List Sv×List UInt8):=(zbz l).bind fun x=>repN zd6 x.1 [] x.2
def zlU (b:List UInt8) (first:UInt8):Prop:=3≤b.length∧b.head? =some first∧crc (b.take (b.length - 2))=b.drop (b.length - 2)
open Classical in
noncomputable def zcw (b:List UInt8) (first:UInt8):Option (List Sv×List UInt8):=if zlU b first then tabN ((b.take (b.length - 2)).drop 1) else none
open Classical in
theorem getA_lt: ∀(f u a:Nat) (l:List UInt8) (n:Nat) (r:List UInt8),getA f u a l=some (n,r)→a<u→n<u*128^f∧ ∃p,l=p++r∧0<p.length
 |0,_,_,_,_,_,h,_=>by cases h
 |_+1,_,_,[],_,_,h,_=>by cases h
 |f+1,u,a,x::l,n,r,h,ha=>by
  unfold getA at h
  have hx:=x.toNat_lt
  split at h
  ·rename_i hlt
   cases h
   refine⟨?_,[x],rfl,by simp⟩
   have h1:a+x.toNat*u<u*128:=by
    have:x.toNat*u≤127*u:=Nat.mul_le_mul_right _ (by omega)
    omega
   refine Nat.lt_of_lt_of_le h1 ?_
   rw[Nat.pow_succ]
   have:1≤128^f:=Nat.pow_pos (by omega)
   calc u*128=u*(1*128):=by omega
    _≤u*(128^f*128):=Nat.mul_le_mul_left _ (Nat.mul_le_mul_right _ this)
  ·have h1:a+x.toNat%128*u<u*128:=by
    have:x.toNat%128*u≤127*u:=Nat.mul_le_mul_right _ (by omega)
    omega
   obtain⟨h2,p,h3,h4⟩:=getA_lt f (u*128) _ l n r h h1
   refine⟨?_,x::p,by rw[h3];rfl,by simp⟩
   rw[Nat.pow_succ,Nat.mul_comm (128^f),←Nat.mul_assoc];exact h2
theorem getN_lt {l:List UInt8} {n:Nat} {r:List UInt8} (h:getN l=some (n,r)):n<34359738368∧ ∃p,l=p++r∧0<p.length:=getA_lt 5 1 0 l n r h (by omega)
theorem zhs {α:Type} {f:List UInt8→Option (α×List UInt8)}: ∀(n:Nat) (a:List α) (l:List UInt8) (b:List α) (r:List UInt8),repN f n a l=some (b,r)→b.length=a.length+n
 |0,a,l,b,r,h=>by cases h;rfl
 |n+1,a,l,b,r,h=>by
  unfold repN at h
  cases hf:f l with
  |none=>rw[hf] at h;cases h
  |some x=>rw[hf] at h;have:=zhs n _ _ b r h;simp at this;omega
theorem zdn {α:Type} {f:List UInt8→Option (α×List UInt8)} (n:Nat) (a:List α) (l:List UInt8):repN f (n+1) a l=(f l).bind fun x=>repN f n (a++[x.1]) x.2:=rfl
theorem zb9 {α:Type} {f:List UInt8→Option (α×List UInt8)} {n:Nat} {a:List α} {l:List UInt8} (h:f l=none):repN f (n+1) a l=none:=by rw[zdn,h];rfl
theorem zeg {α:Type} {f:List UInt8→Option (α×List UInt8)} {n:Nat} {a:List α} {l:List UInt8} {x:α} {r:List UInt8} (h:f l=some (x,r)):repN f (n+1) a l=repN f n (a++[x]) r:=by rw[zdn,h];rfl
end Go.Ideal.S
set_option maxRecDepth 10000
set_option maxHeartbeats 1000000
namespace Go.Ideal.S
open Go Go.Ideal Q
def eSv (v:Sv):List DV:=[I v.k,I v.n]
def eB (b:UInt8):List DV:=[zb0 b]
def mkS (l:List UInt8):ByteArray:=⟨⟨l⟩⟩
abbrev St (l:List UInt8):DV:=.str (mkS l)
@[simp] theorem mkS_nil:(⟨#[]⟩:ByteArray)=mkS []:=id rfl
@[simp] theorem mkS_size (l:List UInt8):(mkS l).size=l.length:=id rfl
@[simp] theorem mkS_list (l:List UInt8):(mkS l).data.toList=l:=id rfl
theorem mkS_of (s:ByteArray): ∃l,s=mkS l:=⟨s.data.toList,rfl⟩
@[simp] theorem cells_byte (b:UInt8):zE (zb0 b)=[zb0 b]:=id rfl
@[simp] theorem isCell_byte (b:UInt8):zu (zb0 b)=true:=id rfl
@[simp] theorem t_Sv (v:Sv):zd3 2 (eSv v)=some (eSv v):=by simp[eSv]
@[simp] theorem all_Sv (v:Sv):(∀x,x∈eSv v→zu x=true)=True:=eq_true (by simp[eSv])
@[simp] theorem n_Sv (v:Sv):(eSv v).length=2:=by simp[eSv]
@[simp] theorem n_B (v:UInt8):(eB v).length=1:=by simp[eB]
theorem eq_bytes (l m:List UInt8):z7 l m=decide (l=m):=by
 induction l generalizing m with
 |nil=>cases m<;>simp[z7]
 |cons a l ih=>
  cases m with
  |nil=>simp[z7]
  |cons b m=>
   have e:Nat.beq a.toNat b.toNat=decide (a=b):=by
    by_cases h:a=b
    ·subst h;simp
    ·have:a.toNat≠b.toNat:=fun e=>h (UInt8.toNat_inj.1 e)
     rw[decide_eq_false h]
     cases e2:Nat.beq a.toNat b.toNat with
     |true=>exact absurd (Nat.eq_of_beq_eq_true e2) this
     |false=>rfl
   simp[z7,ih,e]
section
variable {ek:EK}
@[simp] theorem bin_seq (l m:List UInt8):binD .eql ek (St l) (St m)=some (.bool (decide (l=m))):=by
  show some (DV.bool (z7 l m))=_;rw[eq_bytes]
@[simp] theorem bin_sne (l m:List UInt8):binD .neq ek (St l) (St m)=some (.bool (!decide (l=m))):=by
  show some (DV.bool (!z7 l m))=_;rw[eq_bytes]
theorem zhV (l m:List UInt8) (h:l.length+m.length≤1073741824):binD .add ek (St l) (St m)=some (St (l++m)):=by
 show((if Nat.ble (l.length+m.length) 1073741824=true then some (Value.string ⟨⟨l++m⟩⟩) else none).bind dOf1)=_
 rw[if_pos (by rw[Nat.ble_eq];exact h)];rfl
theorem zhb (k:IntKind) (a b:Int):binD .neq ek (.int k a) (.int k b)=some (.bool (!decide (a=b))):=by
 show(if k=k then some (Value.bool (!eqI a b)) else none).bind dOf1=_
 rw[if_pos rfl,ze9];rfl
theorem bin_ltK (k:IntKind) (a b:Int):binD .lss ek (.int k a) (.int k b)=some (.bool (decide (a<b))):=by
 show(if k=k then some (Value.bool (ltI a b)) else none).bind dOf1=_
 rw[if_pos rfl,zfm];rfl
end
@[simp] theorem strIdx_at (l:List UInt8) (k:IntKind) (i:Nat):zia (St l) (.int k (i:Int))=(l[i]?).map zb0:=id rfl
@[simp] theorem strIdx_0 (l:List UInt8) (k:IntKind):zia (St l) (.int k 0)=(l[0]?).map zb0:=id rfl
theorem zgg {α:Type}: ∀(n:Nat) (l:List α),n≤l.length→zeJ n l=some (l.take n)
 |0,l,_=>by cases l<;>rfl
 |n+1,[],h=>by simp at h
 |n+1,a::l,h=>by
  show((zeJ n l).map (a:: ·))=_
  rw[zgg n l (by simpa using h)];rfl
theorem zgq {α:Type}: ∀(n:Nat) (l:List α),zcR n l=l.drop n
 |0,l=>by cases l<;>rfl
 |n+1,[]=>rfl
 |n+1,a::l=>zgq n l
theorem zgR (l:List UInt8) (k:IntKind) (a:Nat) (h:a≤l.length):zcj (some (.int k (a:Int))) none (St l)=some (St (l.drop a)):=by
 show((zw (mkS l).size (mkS l).size none).bind fun hi=>(zw 0 hi (some (.int k (a:Int)))).bind fun lo=>(zeJ (hi - lo) (zcR lo l)).map fun l=>DV.str ⟨⟨l⟩⟩)=_
 show((if a≤l.length then some a else none).bind fun lo=>(zeJ (l.length - lo) (zcR lo l)).map fun l=>DV.str ⟨⟨l⟩⟩)=_
 rw[if_pos h,Option.bind_some,zgq,zgg _ _ (by simp),List.take_of_length_le (by simp)];rfl
theorem zjL (l:List UInt8) (k:IntKind) (a:Nat) (h:a≤l.length):zcj none (some (.int k (a:Int))) (St l)=some (St (l.take a)):=by
 show((if a≤l.length then some a else none).bind fun hi=>(zeJ (hi - 0) (zcR 0 l)).map fun l=>DV.str ⟨⟨l⟩⟩)=_
 rw[if_pos h,Option.bind_some,zgq,zgg _ _ (by simpa using h)];rfl
theorem strSlice_both (l:List UInt8) (k k':IntKind) (a b:Nat) (h:a≤b) (hb:b≤l.length):zcj (some (.int k (a:Int))) (some (.int k' (b:Int))) (St l)=some (St ((l.take b).drop a)):=by
 show((if b≤l.length then some b else none).bind fun hi=>(if a≤hi then some a else none).bind fun lo=>(zeJ (hi - lo) (zcR lo l)).map fun l=>DV.str ⟨⟨l⟩⟩)=_
 rw[if_pos hb,Option.bind_some,if_pos h,Option.bind_some,zgq,zgg _ _ (by simp;omega),List.drop_take];rfl
theorem zlT: ∀l:List UInt8,allO zha (l.map eB)=some l
 | []=>rfl
 |b::l=>by
  have hb:zha (eB b)=some b:=by
   show some (UInt8.ofNat b.toNat)=some b
   rw[UInt8.ofNat_toNat]
  show((zha (eB b)).bind fun x=>(allO zha (l.map eB)).map (x:: ·))=_
  rw[hb,zlT l];rfl
theorem zhf {M:VM} {d:DV} {l:List UInt8} (h:zeB M 1 d=some (l.map eB)):b2sD M d=some (St l):=by
 unfold b2sD
 rw[h,Option.bind_some,zlT];rfl
theorem wrap_u8 (n:Int):IntKind.u8.wrap n=n%256:=by
 show(if(false&&decide (n%(2^8:Int)≥(2^7:Int)))=true then n%(2^8:Int) - (2^8:Int) else n%(2^8:Int))=_
 simp
theorem wrap_u16 (n:Int):IntKind.u16.wrap n=n%65536:=by
 show(if(false&&decide (n%(2^16:Int)≥(2^15:Int)))=true then n%(2^16:Int) - (2^16:Int) else n%(2^16:Int))=_
 simp
theorem wrap_u64 (n:Int):IntKind.u64.wrap n=n%18446744073709551616:=by
 show(if(false&&decide (n%(2^64:Int)≥(2^63:Int)))=true then n%(2^64:Int) - (2^64:Int) else n%(2^64:Int))=_
 simp
theorem wrap_i64 {n:Int} (h1: -9223372036854775808≤n) (h2:n<9223372036854775808):IntKind.i64.wrap n=n:=by rw[←zjf];exact zT h1 h2
@[simp] theorem un_neg (n:Int):unD .neg (I n)=some (I (zh6 .i64 (0 - n))):=by
  show some (DV.int .i64 (IntKind.i64.wrap (0 - n)))=_;rw[zjf]
theorem zcT (k:IntKind) (n:Nat):ziG .u8 (.int k (n:Int))=some (zb0 (UInt8.ofNat n)):=by
 show some (DV.int .u8 (IntKind.u8.wrap n))=some (DV.int .u8 ((UInt8.ofNat n).toNat:Int))
 rw[wrap_u8,UInt8.toNat_ofNat']
 congr 2
theorem conv_i64 (k:IntKind) (n:Nat) (h:n<9223372036854775808):ziG .i64 (.int k (n:Int))=some (I n):=by
 show some (DV.int .i64 (IntKind.i64.wrap n))=_
 rw[wrap_i64 (by omega) (by omega)]
theorem conv_u64 (k:IntKind) (n:Nat) (h:n<9223372036854775808):ziG .u64 (.int k (n:Int))=some (.int .u64 (n:Int)):=by
 show some (DV.int .u64 (IntKind.u64.wrap n))=_
 rw[wrap_u64,Int.emod_eq_of_lt (by omega) (by omega)]
theorem conv_u16 (k:IntKind) (n:Nat) (h:n<65536):ziG .u16 (.int k (n:Int))=some (.int .u16 (n:Int)):=by
 show some (DV.int .u16 (IntKind.u16.wrap n))=_
 rw[wrap_u16,Int.emod_eq_of_lt (by omega) (by omega)]
section
variable {ek:EK}
theorem zgt (k k':IntKind) (n m:Nat) (hm:m≤k.bits):binD .shr ek (.int k (n:Int)) (.int k' (m:Int))=some (.int k ((n / 2^m:Nat):Int)):=by
 show Option.bind (if ltI (m:Int) 0=true then none else some (Value.int k ((n:Int).fdiv (2^(min (m:Int).toNat k.bits))))) dOf1=_
 rw[zfm]
 simp only[show¬((m:Int)<0) by omega,decide_false,Bool.false_eq_true,if_false,Option.bind_some]
 rw[Int.toNat_natCast,Nat.min_eq_left hm]
 show some (DV.int k _)=_
 congr 2
 rw[Int.fdiv_eq_ediv_of_nonneg _ (by exact_mod_cast Nat.zero_le (2^m))]
 norm_cast
theorem bin_shlN (k k':IntKind) (n m:Nat) (hm:m≤k.bits):binD .shl ek (.int k (n:Int)) (.int k' (m:Int))=some (.int k (k.wrap ((n*2^m:Nat):Int))):=by
 show Option.bind (if ltI (m:Int) 0=true then none else some (Value.int k (k.wrap ((n:Int)*2^(min (m:Int).toNat k.bits))))) dOf1=_
 rw[zfm]
 simp only[show¬((m:Int)<0) by omega,decide_false,Bool.false_eq_true,if_false,Option.bind_some]
 rw[Int.toNat_natCast,Nat.min_eq_left hm]
 show some (DV.int k _)=_
 congr 3
 all_goals norm_cast
theorem bvN {w m:Nat} (h:m<2^w):(BitVec.ofInt w (m:Int)).toNat=m:=by
 rw[BitVec.ofInt_natCast,BitVec.toNat_ofNat,Nat.mod_eq_of_lt h]
theorem zhW (k:IntKind) (a b:Nat) (ha:a<2^k.bits) (hb:b<2^k.bits):binD .and ek (.int k (a:Int)) (.int k (b:Int))=some (.int k (k.wrap ((a &&& b:Nat):Int))):=by
 show((if k=k then some (Value.int k (k.wrap (((BitVec.ofInt k.bits (a:Int) &&& BitVec.ofInt k.bits (b:Int)).toNat:Nat):Int))) else none).bind dOf1)=_
 rw[if_pos rfl,BitVec.toNat_and,bvN ha,bvN hb];rfl
theorem bin_orN (k:IntKind) (a b:Nat) (ha:a<2^k.bits) (hb:b<2^k.bits):binD .or ek (.int k (a:Int)) (.int k (b:Int))=some (.int k (k.wrap ((a ||| b:Nat):Int))):=by
 show((if k=k then some (Value.int k (k.wrap (((BitVec.ofInt k.bits (a:Int) ||| BitVec.ofInt k.bits (b:Int)).toNat:Nat):Int))) else none).bind dOf1)=_
 rw[if_pos rfl,BitVec.toNat_or,bvN ha,bvN hb];rfl
theorem bin_xorN (k:IntKind) (a b:Nat) (ha:a<2^k.bits) (hb:b<2^k.bits):binD .xor ek (.int k (a:Int)) (.int k (b:Int))=some (.int k (k.wrap ((a ^^^ b:Nat):Int))):=by
 show((if k=k then some (Value.int k (k.wrap (((BitVec.ofInt k.bits (a:Int) ^^^ BitVec.ofInt k.bits (b:Int)).toNat:Nat):Int))) else none).bind dOf1)=_
 rw[if_pos rfl,BitVec.toNat_xor,bvN ha,bvN hb];rfl
theorem and127 (n:Nat):n &&& 127=n%128:=Nat.and_two_pow_sub_one_eq_mod n 7
theorem and1 (n:Nat):n &&& 1=n%2:=Nat.and_two_pow_sub_one_eq_mod n 1
theorem and2 (n:Nat):n &&& 2=2*(n / 2%2):=by
 have h:=Nat.and_mod_two_pow (a:=n) (b:=2) (n:=2)
 have hle:n &&& 2≤2:=Nat.and_le_right
 rw[Nat.mod_eq_of_lt (by omega)] at h
 rw[h]
 have h4:n%4=0∨n%4=1∨n%4=2∨n%4=3:=by omega
 show(n%4) &&& 2=_
 rcases h4 with e|e|e|e<;>rw[e]<;>(have:n / 2%2=0∨n / 2%2=1:=by omega)<;>rcases this with q|q<;>rw[q]<;>first|rfl| (exfalso;omega)
theorem or128 {n:Nat} (h:n<128):n ||| 128=n+128:=by
 have:=Nat.two_pow_add_eq_or_of_lt (i:=7) (b:=n) h 1
 rw[Nat.or_comm];simp at this;omega
theorem or_add {n a:Nat} (m:Nat) (h:n<2^m):n ||| a*2^m=n+a*2^m:=by
 have:=Nat.two_pow_add_eq_or_of_lt (i:=m) (b:=n) h a
 rw[Nat.or_comm,Nat.mul_comm a,←this,Nat.add_comm]
theorem zfc (k:IntKind) (a b:Nat) (hb:b≠0):binD .rem ek (.int k (a:Int)) (.int k (b:Int))=some (.int k ((a%b:Nat):Int)):=by
 show((if k=k then(if eqI (b:Int) 0=true then none else some (Value.int k ((a:Int).tmod b))) else none).bind dOf1)=_
 rw[if_pos rfl,ze9,if_neg (by simp;omega)]
 rfl
theorem zfd (a b:Nat) (hb:b≠0) (ha:a<9223372036854775808):binD .quo ek (I a) (I b)=some (I ((a / b:Nat):Int)):=by
 show((if eqI (b:Int) 0=true then none else some (Value.int .i64 (zh6 .i64 ((a:Int).tdiv b)))).bind dOf1)=_
 rw[ze9,if_neg (by simp;omega)]
 have e:((a:Int).tdiv b)=((a / b:Nat):Int):=rfl
 have:a / b≤a:=Nat.div_le_self _ _
 rw[e]
 generalize a / b=q at*
 rw[zT (by omega) (by omega)]
 rfl
end
def Off (d:DV) (i:Nat):Prop:=match d with
 |.ms j _ _ _=>i≠j
 |_=>True
structure Lb (M:VM) (d:DV) (s:Nat) (rows:List (List DV)):Prop where
 row: ∀r∈rows,r.length=s
 v:(rows=[]∧d=.nilS)∨ ∃j op cap,j<M.next∧d=.ms j 0 rows.length cap∧M.obj j=some (.rows op s rows)∧(op=true∧cap=zg∨op=false∧cap=rows.length∧cap<zg)
structure Gro (M:VM) (d:DV) (M':VM) (d':DV):Prop where
 nx:M.next≤M'.next
 kp: ∀i,i<M.next→Off d i→M'.get i=M.get i
 of: ∀i,i<M.next→Off d i→Off d' i
section
variable {M M' M2:VM} {d d' d2:DV} {s:Nat} {rows:List (List DV)}
theorem Gro.refl (M:VM) (d:DV):Gro M d M d:=⟨Nat.le_refl _,fun _ _ _=>rfl,fun _ _ h=>h⟩
theorem Gro.trans (h:Gro M d M' d') (h2:Gro M' d' M2 d2):Gro M d M2 d2:=⟨Nat.le_trans h.nx h2.nx,fun i hi ho=>(h2.kp i (Nat.lt_of_lt_of_le hi h.nx) (h.of i hi ho)).trans (h.kp i hi ho),fun i hi ho=>h2.of i (Nat.lt_of_lt_of_le hi h.nx) (h.of i hi ho)⟩
theorem Gro.pre (o:MO) (h:Gro (M.new o) d M' d'):Gro M d M' d':=⟨Nat.le_trans (Nat.le_succ _) h.nx,fun i hi ho=>(h.kp i (Nat.lt_succ_of_lt hi) ho).trans (by rw[get_new,if_neg (by omega)]),fun i hi ho=>h.of i (Nat.lt_succ_of_lt hi) ho⟩
theorem Gro.obj (h:Gro M d M' d') {i:Nat} (hi:i<M.next) (ho:Off d i):M'.obj i=M.obj i:=by
 show(M'.get i).map _=(M.get i).map _;rw[h.kp i hi ho]
theorem Lb.nil (M:VM) (s:Nat):Lb M .nilS s []:=⟨by simp,.inl ⟨rfl,rfl⟩⟩
theorem Lb.keep (h:Lb M d s rows) (hn:M.next≤M2.next) (hk: ∀i,i<M.next→ ¬Off d i→M2.get i=M.get i):Lb M2 d s rows:=⟨h.row,by
 rcases h.v with h1| ⟨j,op,cap,h2,rfl,h4,h5⟩
 ·exact .inl h1
 ·refine .inr ⟨j,op,cap,Nat.lt_of_lt_of_le h2 hn,rfl,?_,h5⟩
  rw[←h4];show(M2.get j).map _=(M.get j).map _;rw[hk j h2 (fun q=>q rfl)]⟩
theorem Lb.new (h:Lb M d s rows) (o:MO):Lb (M.new o) d s rows:=h.keep (Nat.le_succ _) fun i hi _=>by rw[get_new,if_neg (by omega)]
theorem Lb.put (h:Lb M d s rows) {i:Nat} (hi:Off d i) (o:MO):Lb (M.put i o) d s rows:=h.keep (Nat.le_succ _) fun j hj hn=>by
 rw[get_put,if_neg (fun e=>hn (by rw[e];exact hi))]
theorem Lb.off (h:Lb M d s rows) {i:Nat} {o:MO} (ho:M.obj i=some o) (hne: ∀op,o≠ .rows op s rows):Off d i:=by
 rcases h.v with⟨_,rfl⟩| ⟨j,op,cap,h2,rfl,h4,h5⟩
 ·trivial
 ·intro e;subst e;rw[h4] at ho;cases ho;exact hne op rfl
theorem Lb.cells (h:Lb M d s rows):zE d=[d]:=by
 rcases h.v with⟨_,rfl⟩| ⟨j,_,_,h2,rfl,_⟩<;>rfl
theorem Lb.cell (h:Lb M d s rows):zu d=true:=by
 rcases h.v with⟨_,rfl⟩| ⟨j,_,_,h2,rfl,_⟩<;>rfl
theorem Lb.self (h:Lb M d s rows):zfk d=true:=by
 rcases h.v with⟨_,rfl⟩| ⟨j,_,_,h2,rfl,_⟩<;>rfl
theorem Lb.below (h:Lb M d s rows):zP M.next d:=by
 rcases h.v with⟨_,rfl⟩| ⟨j,_,_,h2,rfl,_⟩
 ·exact .nilS
 ·exact .ms h2
theorem Lb.offN (h:Lb M d s rows) {i:Nat} (hi:M.next≤i):Off d i:=by
 rcases h.v with⟨_,rfl⟩| ⟨j,_,_,h2,rfl,_⟩
 ·trivial
 ·show i≠j;omega
theorem Lb.len (h:Lb M d s rows):lenD M2 d=some rows.length:=by
 rcases h.v with⟨rfl,rfl⟩| ⟨j,_,_,h2,rfl,_⟩<;>rfl
theorem Lb.elems (h:Lb M d s rows) (hs:s≠0):zeB M s d=some rows:=by
 rcases h.v with⟨rfl,rfl⟩| ⟨j,op,cap,h2,rfl,h4,_⟩
 ·rfl
 ·unfold zeB;simp[h4]
theorem Lb.appended (h:Lb M d s rows) (hs:s≠0):zbD M s d=some rows:=by
 have:=h.elems hs
 rcases h.v with⟨rfl,rfl⟩| ⟨j,op,cap,h2,rfl,h4,_⟩<;>exact this
theorem Lb.app (h:Lb M d s rows) {new:List (List DV)} {bytes:Nat} (hr: ∀r∈new,r.length=s) (hb:(rows.length+new.length)*bytes≤1073741824): ∃d' M',zcH s bytes M new d=some (d',M')∧Lb M' d' s (rows++new)∧Gro M d M' d':=by
 by_cases hn:new=[]
 ·subst hn
  refine⟨d,M,?_,by rw[List.append_nil];exact h,.refl _ _⟩
  rcases h.v with⟨_,rfl⟩| ⟨j,_,_,h2,rfl,_⟩<;>(unfold zcH;rw[if_pos rfl])
 have hrow: ∀r∈rows++new,r.length=s:=fun r hm=>by
  rcases List.mem_append.1 hm with hm|hm
  ·exact h.row r hm
  ·exact hr r hm
 have hnl:0<new.length:=by cases new with|nil=>exact absurd rfl hn|cons=>simp
 rcases h.v with⟨rfl,rfl⟩| ⟨j,op,cap,h2,rfl,h4,h5⟩
 ·refine⟨_,_,by unfold zcH;rw[if_neg hn];dsimp only;rw[if_pos (by simpa using hb)],⟨hrow,.inr ⟨M.next,true,zg,Nat.lt_succ_self _,by simp[zgY],by simp[zgY],.inl ⟨rfl,rfl⟩⟩⟩,Nat.le_succ _,fun i hi _=>by show(M.new _).get i=_;rw[get_new,if_neg (by omega)],fun i hi _=>by show i≠M.next;omega⟩
 ·rcases h5 with⟨rfl,rfl⟩| ⟨rfl,rfl,hc⟩
  ·have e:zcH s bytes M new (.ms j 0 rows.length zg)=some (zgY (M.del j) s (rows++new)):=by
    unfold zcH;rw[if_neg hn];dsimp only;rw[if_pos hb,h4]
    show zhX s M new j 0 rows.length zg (.rows true s rows)=_
    unfold zhX;dsimp only
    rw[if_pos ⟨rfl,by omega⟩,if_pos rfl,if_neg (by omega),List.drop_zero,List.take_length]
   refine⟨_,_,e,⟨hrow,.inr ⟨M.next,true,zg,Nat.lt_succ_self _,by simp[zgY,VM.del],by simp[zgY,VM.del],.inl ⟨rfl,rfl⟩⟩⟩,Nat.le_succ _,fun i hi ho=> ?_,fun i hi _=>by show i≠M.next;omega⟩
   show((M.del j).new _).get i=_
   rw[get_new,if_neg (by show i≠M.next;omega),get_del,if_neg ho]
  ·have e:zcH s bytes M new (.ms j 0 rows.length rows.length)=some (zgY M s (rows++new)):=by
    unfold zcH;rw[if_neg hn];dsimp only;rw[if_pos hb,h4]
    show zhX s M new j 0 rows.length rows.length (.rows false s rows)=_
    unfold zhX;dsimp only
    rw[if_pos ⟨rfl,by omega⟩,if_pos hc,if_neg (by omega),List.drop_zero,List.take_length]
   refine⟨_,_,e,⟨hrow,.inr ⟨M.next,true,zg,Nat.lt_succ_self _,by simp[zgY],by simp[zgY],.inl ⟨rfl,rfl⟩⟩⟩,Nat.le_succ _,fun i hi _=>by show(M.new _).get i=_;rw[get_new,if_neg (by omega)],fun i hi _=>by show i≠M.next;omega⟩
theorem Lb.blt (h:Lb M d s rows) {x:DV} {new:List (List DV)} {bytes:Nat} (hx:zbD M s x=some new) (hs:0<s∧s<roE) (hc: ∀r∈new,∀c∈r,zu c=true) (hr: ∀r∈new,r.length=s) (hb:(rows.length+new.length)*bytes≤1073741824):
 ∃d' M',bltD M (.append s bytes) [d,x]=some (d',M')∧Lb M' d' s (rows++new)∧Gro M d M' d':=by
 obtain⟨d',M',e,h'⟩:=h.app hr hb
 exact⟨d',M',by rw[bltD_append,if_pos hs,hx,apN_some,if_pos (by simpa[List.all_eq_true] using hc),e],h'⟩
end
section
variable {M:VM} {d:DV} {s:Nat} {rows:List (List DV)} {X:RnD} {fr:FrC}
theorem zgd {bytes:Nat} {new:List (List DV)} {x:DV} {dst:Option (List Bool)} {r:List CI} {sl:DS} (h:Lb M d s rows) (hx:zbD M s x=some new) (hs:0<s∧s<roE) (hc: ∀r∈new,∀c∈r,zu c=true) (hr: ∀r∈new,r.length=s) (hb:(rows.length+new.length)*bytes≤1073741824) (k: ∀d' M',Lb M' d' s (rows++new)→Gro M d M' d'→ @Op X fr r (zX dst d' sl) M'): @Rs X fr (bltD M (.append s bytes) [d,x]) dst r sl:=by
 obtain⟨d',M',e,h1,h2⟩:=h.blt hx hs hc hr hb
 rw[e];exact k d' M' h1 h2
theorem zh4 {bytes:Nat} {new:List (List DV)} {x:DV} {dst:Option (List Bool)} {l:List CI} {bs:List Mo} {sl:DS} (h:Lb M d s rows) (hx:zbD M s x=some new) (hs:0<s∧s<roE) (hc: ∀r∈new,∀c∈r,zu c=true) (hr: ∀r∈new,r.length=s) (hb:(rows.length+new.length)*bytes≤1073741824) (k: ∀d' M',Lb M' d' s (rows++new)→Gro M d M' d'→ @Dr X fr l (⟨zki bs,M',[]⟩::bs.map (zcv dst)) (zX dst d' sl) M'): @DrW X fr (bltD M (.append s bytes) [d,x]) dst l bs sl:=by
 obtain⟨d',M',e,h1,h2⟩:=h.blt hx hs hc hr hb
 rw[e];exact k d' M' h1 h2
end
theorem c_B (v:UInt8): ∀c∈eB v,zu c=true:=by simp[eB,zb0]
theorem b_Sv {n:Nat} (v:Sv): ∀d∈eSv v,zP n d:=by simp[eSv]
theorem mapc {α:Type} {f:α→List DV} (h: ∀a,∀c∈f a,zu c=true) (l:List α): ∀r∈l.map f,∀c∈r,zu c=true:=fun r hr c hc=>by
 obtain⟨a,_,rfl⟩:=List.mem_map.1 hr;exact h a c hc
theorem mapl {α:Type} {f:α→List DV} {s:Nat} (h: ∀a,(f a).length=s) (l:List α): ∀r∈l.map f,r.length=s:=fun r hr=>by
 obtain⟨a,_,rfl⟩:=List.mem_map.1 hr;exact h a
theorem mapb {α:Type} {n:Nat} {f:α→List DV} (h: ∀a,∀d∈f a,zP n d) (l:List α): ∀r∈l.map f,∀d∈r,zP n d:=fun r hr=>by
 obtain⟨a,-,rfl⟩:=List.mem_map.1 hr;exact h a
end Go.Ideal.S
namespace Go.Ideal.S
open Go Go.Ideal Q Classical
attribute [local simp] decide_eq_true decide_eq_false zT
attribute [local simp] c_bb f_bb r_bb_1 r_bb_2 r_bb_3 r_bb_4 r_bb_6
variable {M:VM} {k kp:DV→VM→Prop} {n0:Nat}
theorem num_step {q:Nat} (h:q<2^62): ∃r s t:Nat,(∀ek,binD .and ek (I q) (I 127)=some (I r))∧(∀ek,binD .or ek (I r) (I 128)=some (I s))∧ziG .u8 (I s)=some (zb0 (UInt8.ofNat (q%128+128)))∧(∀ek,binD .shr ek (I q) (.int .u64 7)=some (I t))∧t=q / 128:=by
 refine⟨q%128,q%128+128,q / 128,fun ek=> ?_,fun ek=> ?_,zcT _ _,fun ek=>zgt (ek:=ek) .i64 .u64 q 7 (by decide),rfl⟩
 ·have h1:=zhW (ek:=ek) .i64 q 127 (by show q<2^64;omega) (by show 127<2^64;omega)
  rw[and127,wrap_i64 (by omega) (by omega)] at h1
  exact h1
 ·have h2:=bin_orN (ek:=ek) .i64 (q%128) 128 (by show q%128<2^64;omega) (by show 128<2^64;omega)
  rw[or128 (by omega),wrap_i64 (by omega) (by omega)] at h2
  exact h2
theorem zhy {d:DV} {l:List UInt8} {n:Nat} (h:Lb M d 1 (l.map eB)) (hn:n<2^62) (hl:l.length+(numB n).length≤1000000000) (hk: ∀d' M',Lb M' d' 1 ((l++numB n).map eB)→Gro M d M' d'→k d' M'):zj F (.fn n_bb [] []) [d,I n] M k kp:=by
 refine .fn h_wire_number rfl (by simp[f_bb]) ?_
 simp
 refine .while (σ:=VM×DV×List UInt8×Nat) c_bb_5.eq_1 (fun z=>[(0,z.2.1),(1,I z.2.2.2)]) (fun z=>z.1) (fun z=>Lb z.1 z.2.1 1 (z.2.2.1.map eB)∧Gro M d z.1 z.2.1∧z.2.2.1++numB z.2.2.2=l++numB n∧z.2.2.2≤n) (fun z=>z.2.2.2) (M,d,l,n) (by simp) rfl ⟨h,.refl _ _,rfl,Nat.le_refl _⟩ (fun z hP again=> ?_)
 obtain⟨y,e,m,q⟩:=z
 obtain⟨p1,p2,p3,p4⟩:=hP
 dsimp only at*
 have hlen:=congrArg List.length p3
 simp only[List.length_append] at hlen
 by_cases hq:127<q
 ·obtain⟨r,s,t,c1,c2,c3,c4,ht⟩:=num_step (q:=q) (by omega)
  have e1:numB q=UInt8.ofNat (q%128+128)::numB (q / 128):=by rw[numB,if_neg (by omega)]
  generalize UInt8.ofNat (q%128+128)=b at*
  have hqi:(127:Int)<q:=by omega
  simp[hqi,c1,c2,c3]
  rw[e1] at hlen
  simp only[List.length_cons] at hlen
  refine zgd (p1.new _) (new:=[[zb0 b]]) (by simp) (by decide) (by simp) (by simp) (by simp;omega) fun d' M' hL hG=> ?_
  have again:=again (M',d',m++[b],t) (by dsimp only;omega) ⟨by simpa[eB] using hL,p2.trans hG.pre,by rw[←p3,e1,ht];simp,by dsimp only;omega⟩
  simp at again
  simp[c4]
  exact again
 ·have e1:numB q=[UInt8.ofNat q]:=by rw[numB,if_pos (by omega)]
  have hqi: ¬(127:Int)<q:=by omega
  have c3:=zcT .i64 q
  generalize UInt8.ofNat q=b at*
  simp[hqi,c3]
  refine zgd (p1.new _) (new:=[[zb0 b]]) (by simp) (by decide) (by simp) (by simp) (by simp;omega) fun d' M' hL hG=> ?_
  simp
  exact hk d' M' (by rw[←p3,e1];simpa[eB] using hL) (p2.trans hG.pre)
def entF:List Sv→Nat→List (DV×DV)
 | [],_=>[]
 |v::l,n=>(.agg (eSv v),I n)::entF l (n+1)
theorem entF_app: ∀(l m:List Sv) (n:Nat),entF (l++m) n=entF l n++entF m (n+l.length)
 | [],m,n=>by simp[entF]
 |v::l,m,n=>by simp[entF,entF_app l m (n+1),Nat.add_assoc,Nat.add_comm 1]
theorem zif (v w:Sv):zbb (.leaves [0,1]) (.agg (eSv v)) (.agg (eSv w))=some (decide (v=w)):=by
 show(some (eqI v.k w.k)).bind (fun b=>((some (eqI v.n w.n)).bind fun b=>(some true).map fun c=>b&&c).map fun c=>b&&c)=_
 rw[ze9,ze9]
 show some (decide (v.k=w.k)&&(decide (v.n=w.n)&&true))=_
 rw[Bool.and_true]
 congr 1
 by_cases h:v=w
 ·subst h;simp
 ·rw[decide_eq_false h]
  by_cases h1:v.k=w.k
  ·have:v.n≠w.n:=fun h2=>h (by cases v;cases w;simp at h1 h2;simp[h1,h2])
   simp[this]
  ·simp[h1]
theorem find_ent (v:Sv): ∀(l:List Sv) (n:Nat),zgB (.leaves [0,1]) (.agg (eSv v)) (entF l n)=some (if v∈l then some (I ((n+l.idxOf v:Nat):Int)) else none)
 | [],n=>by simp[entF,zgB]
 |w::l,n=>by
  show((zbb (.leaves [0,1]) (.agg (eSv v)) (.agg (eSv w))).bind fun b=>match b with|true=>some (some (I n))|false=>zgB (.leaves [0,1]) (.agg (eSv v)) (entF l (n+1)))=_
  rw[zif,Option.bind_some]
  by_cases h:v=w
  ·subst h
   rw[decide_eq_true rfl]
   simp
  ·rw[decide_eq_false h]
   dsimp only
   rw[find_ent v l (n+1),List.idxOf_cons,show(w==v)=false from beq_eq_false_iff_ne.2 (fun e=>h e.symm)]
   by_cases hm:v∈l
   ·rw[if_pos hm,if_pos (List.mem_cons_of_mem _ hm)]
    simp only[cond_false]
    rw[show n+1+l.idxOf v=n+(l.idxOf v+1) by omega]
   ·rw[if_neg hm,if_neg (by simp;exact⟨h,hm⟩)]
theorem set_ent (v:Sv) (x:DV): ∀(l:List Sv) (n:Nat),v∉l→setD (.leaves [0,1]) (.agg (eSv v)) x (entF l n)=some (entF l n++[(.agg (eSv v),x)])
 | [],n,_=>rfl
 |w::l,n,h=>by
  have h1:v≠w:=fun e=>h (by rw[e];exact List.mem_cons_self)
  show((zbb (.leaves [0,1]) (.agg (eSv v)) (.agg (eSv w))).bind fun s=>match s with
   |true=>if zcL (zE (.agg (eSv v))) (zE (.agg (eSv w)))=true then some ((.agg (eSv v),x)::entF l (n+1)) else none
   |false=>(setD (.leaves [0,1]) (.agg (eSv v)) x (entF l (n+1))).map fun y=>(.agg (eSv w),I n)::y)=_
  rw[zif,Option.bind_some,decide_eq_false h1]
  dsimp only
  rw[set_ent v x l (n+1) (fun q=>h (List.mem_cons_of_mem _ q))]
  rfl
structure Base where
 m:VM
 fr:Nat→Prop
abbrev bas (M:VM):Base:=⟨M,fun i=>i<M.next⟩
structure WrE (B:Base) (M:VM) (j:Nat) (t:List Sv) (b:List UInt8) (dn:DV) (jm:Nat) (db:DV):Prop where
 sm: ∀i,B.fr i→M.get i=B.m.get i
 nx: ∀i,B.fr i→i<M.next
 j1: ¬B.fr j
 j2:j<M.next
 m1: ¬B.fr jm
 m2:jm<M.next
 oj:M.obj j=some (.rows false 3 [[dn,.map jm,db]])
 om:M.obj jm=some (.map (entF t 0))
 ln:Lb M dn 2 (t.map eSv)
 lb:Lb M db 1 (b.map eB)
 fn: ∀i,B.fr i→Off dn i∧Off db i
def WrM (B:Base) (M:VM) (j:Nat) (t:List Sv) (b:List UInt8):Prop:= ∃dn jm db,WrE B M j t b dn jm db
section
variable {B:Base} {M':VM} {j jm:Nat} {t:List Sv} {b:List UInt8} {dn db:DV}
theorem WrE.new (h:WrE B M j t b dn jm db) (o:MO):WrE B (M.new o) j t b dn jm db:=
 ⟨fun i hi=>by rw[get_new,if_neg (by have:=h.nx i hi;omega)];exact h.sm i hi,fun i hi=>Nat.lt_succ_of_lt (h.nx i hi),h.j1,Nat.lt_succ_of_lt h.j2,h.m1,Nat.lt_succ_of_lt h.m2,by rw[zb2 _ h.j2];exact h.oj,by rw[zb2 _ h.m2];exact h.om,h.ln.new o,h.lb.new o,h.fn⟩
theorem WrE.jm_ne (h:WrE B M j t b dn jm db):jm≠j:=fun e=>by have:=h.om;rw[e,h.oj] at this;cases this
theorem WrE.nj (h:WrE B M j t b dn jm db):Off dn j:=h.ln.off h.oj (fun op e=>by cases e)
theorem WrE.nm (h:WrE B M j t b dn jm db):Off dn jm:=h.ln.off h.om (fun op e=>by cases e)
theorem WrE.bj (h:WrE B M j t b dn jm db):Off db j:=h.lb.off h.oj (fun op e=>by cases e)
theorem WrE.bm (h:WrE B M j t b dn jm db):Off db jm:=h.lb.off h.om (fun op e=>by cases e)
theorem WrE.fj (h:WrE B M j t b dn jm db) {i:Nat} (hi:B.fr i):i≠j:=fun e=>h.j1 (by rw[←e];exact hi)
theorem WrE.fm (h:WrE B M j t b dn jm db) {i:Nat} (hi:B.fr i):i≠jm:=fun e=>h.m1 (by rw[←e];exact hi)
theorem WrE.body (h:WrE B M j t b dn jm db) {db':DV} {b':List UInt8} (hL:Lb M' db' 1 (b'.map eB)) (hG:Gro M db M' db'):WrE B (M'.put j (.rows false 3 [[dn,.map jm,db']])) j t b' dn jm db':=by
 have hnx:=hG.nx
 have c:=h.j2;have f:=h.m2
 have hbj:=h.bj
 have hbm:=h.bm
 refine⟨fun i hi=>by rw[get_put,if_neg (h.fj hi)];exact(hG.kp i (h.nx i hi) (h.fn i hi).2).trans (h.sm i hi),fun i hi=>by have:=h.nx i hi;simp;omega,h.j1,by simp;omega,h.m1,by simp;omega,by simp,?_,?_,?_,fun i hi=>⟨(h.fn i hi).1,hG.of i (h.nx i hi) (h.fn i hi).2⟩⟩
 ·rw[zcA,if_neg h.jm_ne,hG.obj f hbm];exact h.om
 ·refine(h.ln.keep (M2:=M') hnx fun i hi hn=>hG.kp i hi ?_).put h.nj _
  rcases h.lb.v with⟨_,e2⟩| ⟨q,op,cap,q1,e2,q2,_⟩
  ·rw[e2];trivial
  ·rw[e2];intro e3
   subst e3
   refine hn (h.ln.off q2 fun op e=> ?_)
   injection e with _ e4;cases e4
 ·exact hL.put (hG.of j c hbj) _
theorem WrE.table (h:WrE B M j t b dn jm db) {dn':DV} {v:Sv} (hv:v∉t) (hL:Lb M' dn' 2 ((t++[v]).map eSv)) (hG:Gro M dn M' dn'):WrE B ((M'.put j (.rows false 3 [[dn',.map jm,db]])).put jm (.map (entF (t++[v]) 0))) j (t++[v]) b dn' jm db:=by
 have hnx:=hG.nx
 have c:=h.j2;have f:=h.m2
 have hne:=h.jm_ne
 refine⟨fun i hi=>by rw[get_put,if_neg (h.fm hi),get_put,if_neg (h.fj hi)];exact(hG.kp i (h.nx i hi) (h.fn i hi).1).trans (h.sm i hi),fun i hi=>by have:=h.nx i hi;simp;omega,h.j1,by simp;omega,h.m1,by simp;omega,?_,by simp,?_,?_,fun i hi=>⟨hG.of i (h.nx i hi) (h.fn i hi).1,(h.fn i hi).2⟩⟩
 ·rw[zcA,if_neg (fun e=>hne e.symm),zcA,if_pos rfl]
 ·exact(hL.put (hG.of j c h.nj) _).put (hG.of jm f h.nm) _
 ·refine((h.lb.keep (M2:=M') hnx fun i hi hn=>hG.kp i hi ?_).put h.bj _).put h.bm _
  rcases h.ln.v with⟨_,e2⟩| ⟨q,op,cap,q1,e2,q2,_⟩
  ·rw[e2];trivial
  ·rw[e2];intro e3
   subst e3
   refine hn (h.lb.off q2 fun op e=> ?_)
   injection e with _ e4;cases e4
def zja (t:List Sv) (v:Sv):List Sv:=if v∈t then t else t++[v]
attribute [local simp] c_R f_R r_R_1 r_R_2 r_R_3 r_R_4 r_R_5 r_R_6 r_R_7
theorem zis (h:WrM B M j t b) (v:Sv) (ht:t.length≤10000000) (hk: ∀M',WrM B M' j (zja t v) b→k (I ((t.idxOf v:Nat):Int)) M'):zj F (.fn n_R [] []) [.ptr j 0 0,.agg (eSv v)] M k kp:=by
 obtain⟨dn,jm,db,h⟩:=h
 have a:=h.j2;have c:=h.m2
 have o1:=h.oj;have o2:=h.om
 have hf:=find_ent v t 0
 rw[Nat.zero_add] at hf
 have hl:lkE (.leaves [0,1]) (I 0) true (.agg (eSv v)) (some (entF t 0))=some (zcY (I 0) true (if v∈t then some (I ((t.idxOf v:Nat):Int)) else none)):=by
  show(match zbb (.leaves [0,1]) (.agg (eSv v)) (.agg (eSv v)) with|some _=>(zgB (.leaves [0,1]) (.agg (eSv v)) (entF t 0)).map (zcY (I 0) true)|none=>none)=_
  rw[zif,hf];rfl
 refine .fn zfY rfl (by simp[f_R]) ?_
 by_cases hv:v∈t
 ·rw[if_pos hv] at hl
  have hk:=hk (M.new (.rows false 2 [eSv v])) ⟨dn,jm,db,by unfold zja;rw[if_pos hv];exact h.new _⟩
  generalize ((t.idxOf v:Nat):Int)=ix at*
  simp(disch:=((try simp only[zb,za,zc]);omega)) [o1,o2,hl,zcY]
  exact hk
 ·rw[if_neg hv] at hl
  have e0:t.idxOf v=t.length:=List.idxOf_eq_length hv
  rw[e0] at hk
  have hs:=set_ent v (I (t.length:Int)) t 0 hv
  simp(disch:=((try simp only[zb,za,zc]);omega)) [o1,o2,hl,zcY,h.ln.len]
  refine zh4 ((h.ln.new _).new _) (new:=[eSv v]) (by simp) (by decide) (by simp) (by simp) (by simp;omega) fun d' M' hL hG=> ?_
  have hG2:=hG.pre.pre
  have nx:=hG2.nx
  have p1:M'.obj j=some (.rows false 3 [[dn,.map jm,db]]):=by rw[hG2.obj a h.nj];exact o1
  have p2:M'.obj jm=some (.map (entF t 0)):=by rw[hG2.obj c h.nm];exact o2
  have p3:M'.obj M.next=some (.rows false 2 [eSv v]):=by rw[hG.pre.obj (by simp) (by rcases h.ln.v with⟨_,e⟩| ⟨q,_,_,q1,e,_⟩<;>rw[e]<;>first|trivial| (show M.next≠q;omega))];simp
  have hne:=h.jm_ne
  have hk:=hk _ ⟨_,_,_,by unfold zja;rw[if_neg hv];exact h.table hv (by simpa using hL) hG2⟩
  have a2:j<M'.next:=by omega
  have a3:M.next≠j:=by omega
  have a4:j≠jm:=fun e=>hne e.symm
  rw[entF_app] at hk
  simp[entF] at hk
  have a5:M.next≠jm:=by omega
  have c1:=hL.cells
  have c2:=hL.cell
  have hu: ∀y:VM,y.obj jm=some (.map (entF t 0))→updD (.leaves [0,1]) y (.agg (eSv v)) (I (t.length:Int)) (.map jm)=some (y.put jm (.map (entF t 0++[(.agg (eSv v),I (t.length:Int))]))):=fun y hy=>by
   show(y.obj jm).bind _=_
   rw[hy]
   show(zbb (.leaves [0,1]) (.agg (eSv v)) (.agg (eSv v))).bind (fun _=>(setD (.leaves [0,1]) (.agg (eSv v)) (I (t.length:Int)) (entF t 0)).map fun es=>y.put jm (.map es))=_
   rw[zif,hs];rfl
  have hu:=hu (M'.put j (.rows false 3 [[d',.map jm,db]])) (by rw[zcA,if_neg hne];exact p2)
  simp(disch:=((try simp only[zb,za,zc]);omega)) [p1,p2,p3,a2,a3,a4,a5,hne,hu,c1,c2]
  exact hk
attribute [local simp] c_3 f_3 r_3_1
theorem wnum_ok (h:WrM B M j t b) (n:Nat) (hn:n<2^62) (hl:b.length+(numB n).length≤1000000000) (hk: ∀M',WrM B M' j t (b++numB n)→k (.tup []) M'):zj F (.fn n_3 [] []) [.ptr j 0 0,I n] M k kp:=by
 obtain⟨dn,jm,db,h⟩:=h
 have a:=h.j2;have c:=h.m2
 have o1:=h.oj;have o2:=h.om
 refine .fn zhH rfl (by simp[f_3]) ?_
 simp(disch:=((try simp only[zb,za,zc]);omega)) [o1]
 refine zhy h.lb hn hl fun d' M' hL hG=> ?_
 have p1:M'.obj j=some (.rows false 3 [[dn,.map jm,db]]):=by rw[hG.obj a h.bj];exact o1
 have hk:=hk _ ⟨_,_,_,h.body hL hG⟩
 have c1:=hL.cells
 have c2:=hL.cell
 simp(disch:=((try simp only[zb,za,zc]);omega)) [p1,c1,c2]
 exact hk
attribute [local simp] c_bh f_bh r_bh_1 c_bi f_bi r_bi_1
theorem wchan_ok (h:WrM B M j t b) (n:Int) (ht:t.length≤10000000) (hl:b.length≤900000000) (hk: ∀M',WrM B M' j (zja t (chn n)) (b++numB (t.idxOf (chn n)))→k (.tup []) M'):zj F (.fn n_bh [] []) [.ptr j 0 0,I n] M k kp:=by
 have hi:t.idxOf (chn n)≤t.length:=List.idxOf_le_length
 have hp:(2:Nat)^62=4611686018427387904:=by decide
 have hq:=zbc (t.idxOf (chn n)) (by omega)
 refine .fn zfv rfl (by simp[f_bh]) ?_
 simp(disch:=((try simp only[zb,za,zc]);omega))
 refine zis h (chn n) ht fun M' h'=> ?_
 simp(disch:=((try simp only[zb,za,zc]);omega))
 refine wnum_ok h' _ (by omega) (by omega) fun M2 h2=> ?_
 simp(disch:=((try simp only[zb,za,zc]);omega))
 exact hk M2 h2
theorem wplace_ok (h:WrM B M j t b) (n:Int) (ht:t.length≤10000000) (hl:b.length≤900000000) (hk: ∀M',WrM B M' j (zja t (plc n)) (b++numB (t.idxOf (plc n)))→k (.tup []) M'):zj F (.fn n_bi [] []) [.ptr j 0 0,I n] M k kp:=by
 have hi:t.idxOf (plc n)≤t.length:=List.idxOf_le_length
 have hp:(2:Nat)^62=4611686018427387904:=by decide
 have hq:=zbc (t.idxOf (plc n)) (by omega)
 refine .fn zgA rfl (by simp[f_bi]) ?_
 simp(disch:=((try simp only[zb,za,zc]);omega))
 refine zis h (plc n) ht fun M' h'=> ?_
 simp(disch:=((try simp only[zb,za,zc]);omega))
 refine wnum_ok h' _ (by omega) (by omega) fun M2 h2=> ?_
 simp(disch:=((try simp only[zb,za,zc]);omega))
 exact hk M2 h2
end
end Go.Ideal.S
namespace Go.Ideal.S
open Go Go.Ideal Q Classical
attribute [local simp] decide_eq_true decide_eq_false zT
variable {B:Base} {M M':VM} {k kp:DV→VM→Prop} {n0 j:Nat}
theorem Lb.keepA {M M2:VM} {d:DV} {s:Nat} {rows:List (List DV)} (h:Lb M d s rows) (hn:M.next≤M2.next) (hk: ∀i,i<M.next→M2.get i=M.get i):Lb M2 d s rows:=h.keep hn fun i hi _=>hk i hi
theorem WrE.keep {t:List Sv} {b:List UInt8} {dn db:DV} {jm:Nat} (h:WrE B M j t b dn jm db) (hn:M.next≤M'.next) (hk: ∀i,i<M.next→M'.get i=M.get i):WrE B M' j t b dn jm db:=by
 have a:=h.j2;have c:=h.m2
 refine⟨fun i hi=>(hk i (h.nx i hi)).trans (h.sm i hi),fun i hi=>by have:=h.nx i hi;omega,h.j1,by omega,h.m1,by omega,?_,?_,h.ln.keepA hn hk,h.lb.keepA hn hk,h.fn⟩
 ·rw[←h.oj];show(M'.get j).map _=(M.get j).map _;rw[hk j a]
 ·rw[←h.om];show(M'.get jm).map _=(M.get jm).map _;rw[hk jm c]
def WrS (B:Base) (M:VM) (j:Nat) (w:WS):Prop:=WrM B M j w.t (zO w.b)
theorem WrS.add {w:WS} (h:WrS B M j w) (o o':MO):WrS ⟨(M.new o).put M.next o',fun i=>B.fr i∨i=M.next⟩ ((M.new o).put M.next o') j w:=by
 obtain⟨dn,jm,db,h⟩:=h
 have h2:=h.keep (M':=(M.new o).put M.next o') (by simp;omega) fun q hq=>by rw[get_put,if_neg (by omega),get_new,if_neg (by omega)]
 have a:=h.j2;have c:=h.m2
 refine⟨dn,jm,db,fun _ _=>rfl,fun i hi=> ?_,fun hi=> ?_,h2.j2,fun hi=> ?_,h2.m2,h2.oj,h2.om,h2.ln,h2.lb,fun i hi=> ?_⟩
 ·rcases hi with hi|hi
  ·have:=h.nx i hi;simp;omega
  ·simp;omega
 ·rcases hi with hi|hi
  ·exact h.j1 hi
  ·omega
 ·rcases hi with hi|hi
  ·exact h.m1 hi
  ·omega
 ·rcases hi with hi|hi
  ·exact h.fn i hi
  ·rw[hi];exact⟨h.ln.offN (Nat.le_refl _),h.lb.offN (Nat.le_refl _)⟩
theorem WrS.rebase {B2:Base} {w:WS} (h:WrS B2 M j w) (hf: ∀i,B.fr i→B2.fr i∧B2.m.get i=B.m.get i):WrS B M j w:=by
 obtain⟨dn,jm,db,h⟩:=h
 exact⟨dn,jm,db,fun i hi=>(h.sm i (hf i hi).1).trans (hf i hi).2,fun i hi=>h.nx i (hf i hi).1,fun hi=>h.j1 (hf _ hi).1,h.j2,fun hi=>h.m1 (hf _ hi).1,h.m2,h.oj,h.om,h.ln,h.lb,fun i hi=>h.fn i (hf i hi).1⟩
theorem WrS.sm {w:WS} (h:WrS B M j w) {i:Nat} (hi:B.fr i):M.get i=B.m.get i:=by
 obtain⟨_,_,_,h⟩:=h
 exact h.sm i hi
theorem WrS.obj {w:WS} (h:WrS B M j w) {i:Nat} (hi:B.fr i):M.obj i=B.m.obj i:=by
 show(M.get i).map _=(B.m.get i).map _
 rw[h.sm hi]
theorem WrS.keep {w:WS} (h:WrS B M j w) (hn:M.next≤M'.next) (hk: ∀i,i<M.next→M'.get i=M.get i):WrS B M' j w:=by
 obtain⟨dn,jm,db,h⟩:=h
 exact⟨dn,jm,db,h.keep hn hk⟩
theorem ment_t (w:WS) (v:Sv):(w.ment v).t=zja w.t v:=by unfold WS.ment zja;split<;>rfl
theorem ziP (w:WS) (v:Sv):(w.ment v).b=w.b:=by unfold WS.ment;split<;>rfl
theorem zkl (t:List Sv) (v:Sv):(zja t v).length≤t.length+1:=by unfold zja;split<;>simp
theorem num_t (w:WS) (n:Nat):(w.num n).t=w.t:=rfl
theorem num_b (w:WS) (n:Nat):zO (w.num n).b=zO w.b++numB n:=zkg _ _
theorem ref_t (w:WS) (v:Sv):(w.ref v).t=zja w.t v:=ment_t w v
theorem ref_b (w:WS) (v:Sv):zO (w.ref v).b=zO w.b++numB (w.t.idxOf v):=by
 show zO ((w.ment v).b++[_])=_
 rw[zkg,ziP]
theorem zd4 {w:WS} (h:WrS B M j w) (n:Nat) (hn:n<2^62) (hl:(zO w.b).length≤900000000) (hk: ∀M',WrS B M' j (w.num n)→k (.tup []) M'):zj F (.fn n_3 [] []) [.ptr j 0 0,I n] M k kp:=by
 have hp:(2:Nat)^62=4611686018427387904:=by decide
 have hq:=zbc n (by omega)
 refine wnum_ok h n hn (by omega) fun M' h'=>hk M' ?_
 unfold WrS
 rw[num_b,num_t];exact h'
theorem schan_ok {w:WS} (h:WrS B M j w) (n:Int) (ht:w.t.length≤10000000) (hl:(zO w.b).length≤900000000) (hk: ∀M',WrS B M' j (w.ref (chn n))→k (.tup []) M'):zj F (.fn n_bh [] []) [.ptr j 0 0,I n] M k kp:=
 wchan_ok h n ht hl fun M' h'=>hk M' (by unfold WrS;rw[ref_b,ref_t];exact h')
theorem splace_ok {w:WS} (h:WrS B M j w) (n:Int) (ht:w.t.length≤10000000) (hl:(zO w.b).length≤900000000) (hk: ∀M',WrS B M' j (w.ref (plc n))→k (.tup []) M'):zj F (.fn n_bi [] []) [.ptr j 0 0,I n] M k kp:=
 wplace_ok h n ht hl fun M' h'=>hk M' (by unfold WrS;rw[ref_b,ref_t];exact h')
theorem big62:(2:Nat)^62=4611686018427387904:=by decide
theorem big1:(128:Nat)^10=1180591620717411303424:=by decide
theorem val_len {w:WS} {v:Sv} (hv:ValV v) (ht:w.t.length≤10000000):(w.val v).t.length≤w.t.length+1∧(zO (w.val v).b).length≤(zO w.b).length+10:=by
 have hi:w.t.idxOf v≤w.t.length:=List.idxOf_le_length
 have b1:=big1
 have hr: -1000000000≤v.n∧v.n≤1000000000:=by
  rcases hv with(h|h|h)|h<;>omega
 unfold WS.val
 split
 ·have:=zbc (2*w.t.idxOf v+1) (by omega)
  rw[num_t,num_b,ment_t,ziP,List.length_append]
  have:=zkl w.t v
  exact⟨by omega,by omega⟩
 ·split
  ·have:=zbc (4*v.n.toNat) (by omega)
   rw[num_t,num_b,List.length_append];exact⟨by omega,by omega⟩
  ·have:=zbc (4*(-v.n - 1).toNat+2) (by omega)
   rw[num_t,num_b,List.length_append];exact⟨by omega,by omega⟩
attribute [local simp] c_I f_I r_I_1 r_I_2 r_I_3 r_I_4 r_I_5 r_I_6 r_I_7 r_I_8 r_I_9 r_I_10
theorem svals_ok {w:WS} (h:WrS B M j w) (l:List Sv) (hv: ∀v∈l,ValV v) (ht:w.t.length+l.length≤10000000) (hb:(zO w.b).length+10*(l.length+1)≤900000000) (hk: ∀M',WrS B M' j (w.vals l)→k (.tup []) M'):zj F (.fn n_I [] []) [.ptr j 0 0,.lst 2 (l.map eSv)] M k kp:=by
 have b0:=big62
 have b1:=big1
 refine .fn zg3 rfl (by simp[f_I]) ?_
 simp(disch:=((try simp only[zb,za,zc]);omega))
 refine zd4 h l.length (by omega) (by omega) fun M1 h1=> ?_
 have hn1:=zbc l.length (by omega)
 simp(disch:=((try simp only[zb,za,zc]);omega))
 refine .for (σ:=VM) c_I_11.eq_1 (fun i _=>[(12,I i)]) (fun z=>z) (fun i z=>WrS B z j ((l.take i).foldl WS.val (w.num l.length))∧((l.take i).foldl WS.val (w.num l.length)).t.length≤w.t.length+i∧(zO ((l.take i).foldl WS.val (w.num l.length)).b).length≤(zO w.b).length+10+10*i) l.length M1 (by simp) rfl ⟨h1,by rw[List.take_zero];exact Nat.le_refl _,by rw[List.take_zero];show(zO (w.num l.length).b).length≤_;rw[num_b,List.length_append];omega⟩ (fun i y hi hP again=> ?_) (fun y hP=> ?_)
 ·obtain⟨p1,p2,p3⟩:=hP
  have hvi:=hv _ (List.getElem_mem hi)
  rw[List.take_succ_eq_append_getElem hi,List.foldl_append] at again
  simp only[List.foldl_cons,List.foldl_nil] at again
  have hle:=val_len (w:=(l.take i).foldl WS.val (w.num l.length)) hvi (by omega)
  generalize (l.take i).foldl WS.val (w.num l.length)=u at*
  generalize hx:l[i]=v at*
  have hr: -1000000000≤v.n∧v.n≤1000000000:=by
   rcases hvi with(h|h|h)|h<;>omega
  have p1': ∀o,WrS B ((y.new (.rows false 2 [[.int .i64 0,.int .i64 0]])).put y.next o) j u:=fun o=>p1.keep (by simp;omega) fun q hq=>by rw[get_put,if_neg (by omega),get_new,if_neg (by omega)]
  by_cases hk1:v.k=1
  ·by_cases hn0:0≤v.n
   ·obtain⟨n,hn⟩:=Int.eq_ofNat_of_zero_le hn0
    have e:u.val v=u.num (4*n):=by unfold WS.val;rw[if_neg (fun x=>x hk1),if_pos hn0,hn];rfl
    rw[e] at again hle
    simp(disch:=((try simp only[zb,za,zc]);omega)) [hi,hx,eSv,hk1,hn0]
    have e4:4*v.n=((4*n:Nat):Int):=by omega
    rw[e4]
    refine zd4 (p1' _) (4*n) (by omega) (by omega) fun M2 h2=> ?_
    have again:=again M2 ⟨h2,by omega,by omega⟩
    simp at again
    simp(disch:=((try simp only[zb,za,zc]);omega))
    exact again
   ·obtain⟨n,hn⟩:=Int.eq_ofNat_of_zero_le (show 0≤ -v.n - 1 by omega)
    have e:u.val v=u.num (4*n+2):=by unfold WS.val;rw[if_neg (fun x=>x hk1),if_neg hn0,hn];rfl
    rw[e] at again hle
    simp(disch:=((try simp only[zb,za,zc]);omega)) [hi,hx,eSv,hk1,hn0]
    have e4:4*(-v.n - 1)+2=((4*n+2:Nat):Int):=by omega
    rw[e4]
    refine zd4 (p1' _) (4*n+2) (by omega) (by omega) fun M2 h2=> ?_
    have again:=again M2 ⟨h2,by omega,by omega⟩
    simp at again
    simp(disch:=((try simp only[zb,za,zc]);omega))
    exact again
  ·have e:u.val v=(u.ment v).num (2*u.t.idxOf v+1):=by unfold WS.val;rw[if_pos hk1]
   have hix:u.t.idxOf v≤u.t.length:=List.idxOf_le_length
   have hml:=zkl u.t v
   have hmt:=ment_t u v
   have hmb:=ziP u v
   rw[e] at again hle
   simp(disch:=((try simp only[zb,za,zc]);omega)) [hi,hx,eSv,hk1]
   refine zis (p1' _) v (by omega) fun M1 h1=> ?_
   have h1:WrS B M1 j (u.ment v):=by unfold WrS;rw[hmt,hmb];exact h1
   generalize u.t.idxOf v=ix at*
   simp(disch:=((try simp only[zb,za,zc]);omega))
   have e4:2*(ix:Int)+1=((2*ix+1:Nat):Int):=by omega
   rw[e4]
   refine zd4 h1 (2*ix+1) (by omega) (by rw[hmb];omega) fun M2 h2=> ?_
   have again:=again M2 ⟨h2,by omega,by omega⟩
   simp at again
   simp(disch:=((try simp only[zb,za,zc]);omega))
   exact again
 ·skip
  rw[List.take_length] at hP
  simp(disch:=((try simp only[zb,za,zc]);omega))
  exact hk y hP.1
end Go.Ideal.S
namespace Go.Ideal.S
open Go Go.Ideal Q Classical
attribute [local simp] decide_eq_true decide_eq_false zT
variable {M M' B:VM} {k kp:DV→VM→Prop} {n0 j:Nat}
structure BV (M:VM) (d:DV) (l:List UInt8):Prop where
 len:lenD M d=some l.length
 at_: ∀i (hi:i<l.length),∃p,ziK 1 M (I (i:Int)) d=some p∧ld1 (zcz M p)=some (zb0 l[i])
theorem BV.bs (M:VM) (l:List UInt8):BV M (.bs (mkS l)) l:=⟨rfl,fun i hi=>⟨.pl 1 (l.map eB) i 0,by rw[addrD_bsN,if_pos (by simpa using hi)];rfl,by simp[hi,eB]⟩⟩
theorem BV.lb {d:DV} {l:List UInt8} (h:Lb M d 1 (l.map eB)):BV M d l:=⟨by rw[h.len,List.length_map],fun i hi=>by
 rcases h.v with⟨e,_⟩| ⟨q,op,cap,h2,e,h4,_⟩
 ·have:=congrArg List.length e;simp at this;subst this;simp at hi
 ·subst e
  refine⟨.ptr q (0+i) 0,?_,?_⟩
  ·simp[h4,hi]
  ·simp[h4,hi,eB]⟩
theorem bit_step {r x m:Nat} (hr:r<65536) (hx:x<256) (hm:m<8): ∃a b c e f:Nat,(∀ek,binD .shr ek (.int .u16 (r:Int)) (.int .u64 15)=some (.int .u16 (a:Int)))∧(∀ek,binD .shr ek (.int .u8 (x:Int)) (I (7 - (m:Int)))=some (.int .u8 (b:Int)))∧(∀ek,binD .and ek (.int .u8 (b:Int)) (.int .u8 1)=some (.int .u8 (c:Int)))∧ziG .u16 (.int .u8 (c:Int))=some (.int .u16 (c:Int))∧(∀ek,binD .shl ek (.int .u16 (r:Int)) (.int .u64 1)=some (.int .u16 (e:Int)))∧(∀ek,binD .xor ek (.int .u16 (e:Int)) (.int .u16 4129)=some (.int .u16 (f:Int)))∧a=r / 32768∧c=x / 2^(7 - m)%2∧e=r*2%65536∧f=e ^^^ 4129:=by
 have hb:x / 2^(7 - m)<256:=Nat.lt_of_le_of_lt (Nat.div_le_self _ _) hx
 have hf:(r*2%65536) ^^^ 4129<65536:=Nat.xor_lt_two_pow (n:=16) (Nat.mod_lt _ (by omega)) (by omega)
 refine⟨r / 32768,x / 2^(7 - m),x / 2^(7 - m)%2,r*2%65536,(r*2%65536) ^^^ 4129,fun ek=>zgt .u16 .u64 r 15 (by decide),fun ek=> ?_,fun ek=> ?_,conv_u16 _ _ (by omega),fun ek=> ?_,fun ek=> ?_,rfl,rfl,rfl,rfl⟩
 ·rw[show(7 - (m:Int))=((7 - m:Nat):Int) by omega]
  exact zgt .u8 .i64 x (7 - m) (by show 7 - m≤8;omega)
 ·generalize x / 2^(7 - m)=b at*
  have:=zhW (ek:=ek) .u8 b 1 (by show b<2^8;omega) (by show 1<2^8;omega)
  rw[and1,wrap_u8] at this
  rw[show(1:Int)=((1:Nat):Int) from rfl,this]
  congr 2;omega
 ·have:=bin_shlN (ek:=ek) .u16 .u64 r 1 (by decide)
  rw[wrap_u16] at this
  rw[show(1:Int)=((1:Nat):Int) from rfl,this]
  congr 2
 ·have:=bin_xorN (ek:=ek) .u16 (r*2%65536) 4129 (by show _<2^16;omega) (by show 4129<2^16;omega)
  rw[wrap_u16] at this
  rw[show(4129:Int)=((4129:Nat):Int) from rfl,this]
  generalize (r*2%65536) ^^^ 4129=f at*
  congr 2;omega
attribute [local simp] c_W f_W r_W_1 r_W_2 r_W_3 r_W_4 r_W_5 r_W_6 r_W_7 r_W_8 r_W_9 r_W_10 r_W_11 r_W_12 r_W_13 r_W_15 r_W_17
theorem sum_ok {d:DV} {l:List UInt8} (h:BV M d l) (hl:l.length<4611686018427387904) (hk:k (.ms M.next 0 2 2) (M.new (.rows false 1 ((crc l).map eB)))):zj F (.fn n_W [] []) [d] M k kp:=by
 refine .fn h_wire_sum rfl (by simp[f_W]) ?_
 simp(disch:=((try simp only[zb,za,zc]);omega)) [h.len]
 refine .for (σ:=Nat) c_W_16.eq_1 (fun i r=>[(3,.int .u16 (r:Int)),(10,I i)]) (fun _=>M) (fun i r=>r=crcN (l.take i)) l.length 65535 (by simp) rfl rfl (fun i r hi hP again=> ?_) (fun r hP=> ?_)
 ·obtain⟨p,hp1,hp2⟩:=h.at_ i hi
  have hr:r<65536:=by rw[hP];exact crcN_lt _
  have again:=again (crcY l[i].toNat 8 r) (by rw[List.take_succ_eq_append_getElem hi,crcN_app,hP])
  have hx:l[i].toNat<256:=l[i].toNat_lt
  have hb:zb0 l[i]=.int .u8 (l[i].toNat:Int):=rfl
  generalize l[i].toNat=x at*
  simp at again
  simp(disch:=((try simp only[zb,za,zc]);omega)) [hi,hp1,hp2]
  rw[hb]
  refine .for (σ:=Nat) c_W_14.eq_1 (fun q r=>[(3,.int .u16 (r:Int)),(14,I q)]) (fun _=>M) (fun q s=>s<65536∧crcY x (8 - q) s=crcY x 8 r) 8 r (by simp) rfl ⟨hr,rfl⟩ (fun q s hq hP2 again2=> ?_) (fun s hP2=> ?_)
  ·obtain⟨q1,q2⟩:=hP2
   obtain⟨a,b,c,e,f,s1,s2,s3,s4,s5,s6,s7,s8,s9,s10⟩:=bit_step q1 hx hq
   have e8:8 - q=(7 - q)+1:=by omega
   rw[e8,crcY] at q2
   have hcl:=crcB_lt s (decide (s / 32768≠x / 2^(7 - q)%2))
   have again2:=again2 (crcB s (decide (s / 32768≠x / 2^(7 - q)%2))) ⟨hcl,by rw[show 8 - (q+1)=7 - q by omega];exact q2⟩
   rw[←s7,←s8] at again2
   have s11:=fun ek=>zhb (ek:=ek) .u16 (a:Int) (c:Int)
   have hqi:(q:Int)<8:=by omega
   by_cases hac:a=c
   ·have e1:crcB s (decide (a≠c))=e:=by unfold crcB;rw[if_neg (by simp[hac]),s9]
    rw[e1] at again2
    have hac2:(a:Int)=c:=by omega
    simp at again2
    simp(disch:=((try simp only[zb,za,zc]);omega)) [hqi,s1,s2,s3,s4,s5,s6,zhb,hac2]
    exact again2
   ·have e1:crcB s (decide (a≠c))=f:=by unfold crcB;rw[if_pos (by simp[hac]),s10,s9]
    rw[e1] at again2
    have hac2: ¬(a:Int)=c:=by omega
    simp at again2
    simp(disch:=((try simp only[zb,za,zc]);omega)) [hqi,s1,s2,s3,s4,s5,s6,zhb,hac2]
    exact again2
  ·obtain⟨q1,q2⟩:=hP2
   have q2:s=crcY x 8 r:=q2
   subst q2
   simp(disch:=((try simp only[zb,za,zc]);omega))
   exact again
 ·rw[List.take_length] at hP
  have hr:r<65536:=by rw[hP];exact crcN_lt _
  have s1: ∀ek,binD .shr ek (.int .u16 (r:Int)) (.int .u64 8)=some (.int .u16 ((r / 2^8:Nat):Int)):=fun ek=>zgt (ek:=ek) .u16 .u64 r 8 (by decide)
  have s2:=zcT .u16 (r / 2^8)
  have s3:=zcT .u16 r
  have e2:crc l=[UInt8.ofNat (r / 2^8),UInt8.ofNat r]:=by
   unfold crc
   rw[←hP]
   congr 2
   refine UInt8.toNat_inj.1 ?_
   rw[UInt8.toNat_ofNat',UInt8.toNat_ofNat'];omega
  rw[e2] at hk
  generalize r / 2^8=a at*
  generalize UInt8.ofNat a=b1 at*
  generalize UInt8.ofNat r=b2 at*
  simp(disch:=((try simp only[zb,za,zc]);omega)) [s1,s2,s3]
  exact hk
end Go.Ideal.S
namespace Go.Ideal.S
open Go Go.Ideal Q Classical
attribute [local simp] decide_eq_true decide_eq_false zT
variable {B:Base} {M M':VM} {k kp:DV→VM→Prop} {n0 j:Nat}
theorem crc_len (l:List UInt8):(crc l).length=2:=rfl
attribute [local simp] c_bo f_bo r_bo_1 r_bo_2
theorem sealed_ok {d:DV} {l:List UInt8} (h:Lb M d 1 (l.map eB)) (hl:l.length≤1000000000) (hk: ∀M',M.next≤M'.next→(∀i,i<M.next→Off d i→M'.get i=M.get i)→k (St (sealB l)) M'):zj F (.fn n_bo [] []) [d] M k kp:=by
 refine .fn h_wire_sealed rfl (by simp[f_bo]) ?_
 simp(disch:=((try simp only[zb,za,zc]);omega))
 refine sum_ok (BV.lb h) (by omega) ?_
 simp(disch:=((try simp only[zb,za,zc]);omega))
 refine zgd (h.new _) (new:=(crc l).map eB) (by simp[crc]) (by decide) (mapc c_B _) (mapl n_B _) (by simp[crc_len];omega) fun d' M' hL hG=> ?_
 have hb:=zhf (l:=sealB l) (M:=M') (d:=d') (by rw[hL.elems (by decide)];simp[sealB])
 simp(disch:=((try simp only[zb,za,zc]);omega)) [hb]
 exact hk M' hG.pre.nx hG.pre.kp
def tabB (t:List Sv):List UInt8:=zO (t.flatMap fun v=>[v.k.toNat,v.n.toNat])
theorem tabB_one (t:List Sv) (v:Sv):tabB (t++[v])=tabB t++numB v.k.toNat++numB v.n.toNat:=by
 unfold tabB;rw[List.flatMap_append,numsB_app];simp[zO]
def zi6 (v:Sv):Prop:=(0≤v.k∧v.k<4000000000000000000)∧0≤v.n∧v.n<4000000000000000000
theorem tabB_len (t:List Sv) (h: ∀v∈t,zi6 v):(tabB t).length≤20*t.length:=by
 have b1:=big1
 induction t with
 |nil=>simp[tabB,zO]
 |cons v t ih=>
  have h1:=ih fun x hx=>h x (List.mem_cons_of_mem _ hx)
  obtain⟨⟨a,b⟩,c,d⟩:=h v List.mem_cons_self
  have e:tabB (v::t)=numB v.k.toNat++numB v.n.toNat++tabB t:=by simp[tabB,zO]
  have h2:=zbc v.k.toNat (by omega)
  have h3:=zbc v.n.toNat (by omega)
  rw[e];simp;omega
attribute [local simp] c_be f_be r_be_1 r_be_2 r_be_3 r_be_4 r_be_5 r_be_6 r_be_7 r_be_9
theorem head_ok (first:UInt8) {t:List Sv} {dn:DV} (hd:Lb M dn 2 (t.map eSv)) (hs: ∀v∈t,zi6 v) (ht:t.length≤10000000) (hk: ∀d' M',Lb M' d' 1 ((first::zO (zeq t)).map eB)→M.next≤M'.next→(∀i,i<M.next→M'.get i=M.get i)→(∀i,i<M.next→Off d' i)→k d' M'):zj F (.fn n_be [] []) [zb0 first,dn] M k kp:=by
 have b0:=big62
 have b1:=big1
 have hn1:=zbc t.length (by omega)
 have hlit:Lb (M.new (.rows false 1 [[zb0 first]])) (.ms M.next 0 1 1) 1 ([first].map eB):=⟨by simp[eB],.inr ⟨M.next,false,1,by simp,rfl,by simp[eB],.inr ⟨rfl,rfl,by decide⟩⟩⟩
 refine .fn h_wire_head rfl (by simp[f_be]) ?_
 simp(disch:=((try simp only[zb,za,zc]);omega)) [hd.len]
 refine zhy hlit (by omega) (by simp;omega) fun d1 M1 h1 g1=> ?_
 have o1: ∀i,i<M.next→M1.get i=M.get i:=fun i hi=>by rw[g1.kp i (by simp;omega) (by show i≠M.next;omega),get_new,if_neg (by omega)]
 have f1: ∀i,i<M.next→Off d1 i:=fun i hi=>g1.of i (by simp;omega) (by show i≠M.next;omega)
 have n1:=g1.nx
 simp at n1
 simp(disch:=((try simp only[zb,za,zc]);omega)) [hd.len]
 refine .for (σ:=VM×DV) c_be_8.eq_1 (fun i z=>[(5,z.2),(15,I i)]) (fun z=>z.1) (fun i z=>Lb z.1 z.2 1 (([first]++numB t.length++tabB (t.take i)).map eB)∧(∀i,i<M.next→z.1.get i=M.get i)∧(∀i,i<M.next→Off z.2 i)∧M.next≤z.1.next) t.length (M1,d1) (by simp) rfl ⟨by simpa[tabB,zO] using h1,o1,f1,by show M.next≤M1.next;omega⟩ (fun i z hi hP again=> ?_) (fun z hP=> ?_)
 ·obtain⟨y,d⟩:=z
  obtain⟨p1,p2,p3,p4⟩:=hP
  dsimp only at*
  have hdy:Lb y dn 2 (t.map eSv):=hd.keepA p4 p2
  have hv:=hs _ (List.getElem_mem hi)
  rw[List.take_succ_eq_append_getElem hi] at again
  have hat: ∃p,ziK 2 y (I (i:Int)) dn=some p∧ldN 2 (zcz y p)=some (.agg (eSv t[i])):=by
   rcases hdy.v with⟨e,_⟩| ⟨q,op,cap,h2,e,h4,_⟩
   ·have:=congrArg List.length e;simp at this;subst this;simp at hi
   ·subst e
    exact⟨.ptr q (0+i) 0,by simp[h4,hi],by simp[h4,hi]⟩
  obtain⟨p,hp1,hp2⟩:=hat
  have htk: ∀v∈t.take i,zi6 v:=fun v hv=>hs v (List.mem_of_mem_take hv)
  have hl1:=tabB_len (t.take i) htk
  have hl2:(t.take i).length≤t.length:=by rw[List.length_take];omega
  rw[tabB_one] at again
  generalize t[i]=v at*
  generalize tabB (t.take i)=tb at*
  obtain⟨⟨a,b⟩,c,dd⟩:=hv
  obtain⟨kn,hkn⟩:=Int.eq_ofNat_of_zero_le a
  obtain⟨nn,hnn⟩:=Int.eq_ofNat_of_zero_le c
  have h2:=zbc kn (by omega)
  have h3:=zbc nn (by omega)
  have ek:v.k.toNat=kn:=by omega
  have en:v.n.toNat=nn:=by omega
  rw[ek,en] at again
  simp(disch:=((try simp only[zb,za,zc]);omega)) [hi,hp1,hp2,eSv,hkn,hnn]
  have k1: ∀q,q<y.next→(((y.new (.rows false 2 [[.int .i64 0,.int .i64 0]])).put y.next (.rows false 2 [[I kn,I nn]])).get q=y.get q):=fun q hq=>by rw[get_put,if_neg (by omega),get_new,if_neg (by omega)]
  have p1y:=p1.keepA (M2:=(y.new (.rows false 2 [[.int .i64 0,.int .i64 0]])).put y.next (.rows false 2 [[I kn,I nn]])) (by simp;omega) k1
  have hlen:([first]++numB t.length++tb).length≤300000000:=by simp;omega
  refine zhy p1y (by omega) (by omega) fun d3 M3 h3' g3=> ?_
  have n3:=g3.nx
  simp at n3
  have o3:M3.obj y.next=some (.rows false 2 [[I kn,I nn]]):=by rw[g3.obj (by simp;omega) (p1.offN (Nat.le_refl _))];simp
  have hlen3:([first]++numB t.length++tb++numB kn).length≤300000100:=by rw[List.length_append];omega
  have hnn2:nn<2^62:=by omega
  simp(disch:=((try simp only[zb,za,zc]);omega)) [o3]
  refine⟨by rw[g3.kp y.next (by simp;omega) (p1.offN (Nat.le_refl _)),get_put,if_pos rfl];simp,?_⟩
  refine zhy h3' (by omega) (by omega) fun d4 M4 h4 g4=> ?_
  have n4:=g4.nx
  have again:=again (M4,d4) ⟨by simpa using h4,fun q hq=>by
   rw[g4.kp q (by omega) (g3.of q (by simp;omega) (p3 q hq)),g3.kp q (by simp;omega) (p3 q hq),k1 q (by omega)];exact p2 q hq,fun q hq=>g4.of q (by omega) (g3.of q (by simp;omega) (p3 q hq)),by show M.next≤M4.next;omega⟩
  simp at again
  simp(disch:=((try simp only[zb,za,zc]);omega))
  exact again
 ·obtain⟨y,d⟩:=z
  obtain⟨p1,p2,p3,p4⟩:=hP
  dsimp only at*
  rw[List.take_length] at p1
  simp(disch:=((try simp only[zb,za,zc]);omega))
  refine hk d y ?_ p4 p2 p3
  have:first::zO (zeq t)=[first]++numB t.length++tabB t:=by unfold zeq tabB;rw[zgl];simp
  rw[this];exact p1
attribute [local simp] c_bk f_bk r_bk_1 r_bk_2
theorem send_ok {w:WS} (h:WrS B M j w) (first:UInt8) (hs: ∀v∈w.t,zi6 v) (ht:w.t.length≤10000000) (hb:(zO w.b).length≤700000000) (hk: ∀M',M.next≤M'.next→(∀i,B.fr i→M'.get i=B.m.get i)→k (St (w.fin first)) M'):zj F (.fn n_bk [] []) [.ptr j 0 0,zb0 first] M k kp:=by
 obtain⟨dn,jm,db,h⟩:=h
 have o1:=h.oj
 have b0:=big62
 have b1:=big1
 have hn1:=zbc w.t.length (by omega)
 have htl:=tabB_len w.t hs
 have hhl:(first::zO (zeq w.t)).length≤20+20*w.t.length:=by
  have:first::zO (zeq w.t)=[first]++numB w.t.length++tabB w.t:=by unfold zeq tabB;rw[zgl];simp
  rw[this];simp;omega
 have a:=h.j2
 refine .fn zhI rfl (by simp[f_bk]) ?_
 simp(disch:=((try simp only[zb,za,zc]);omega)) [o1]
 refine head_ok first h.ln hs ht fun d1 M1 h1 n1 k1 f1=> ?_
 have o2:M1.obj j=some (.rows false 3 [[dn,.map jm,db]]):=by show(M1.get j).map _=_;rw[k1 j a];exact o1
 have hbody:=h.lb.keepA n1 k1
 simp(disch:=((try simp only[zb,za,zc]);omega)) [o2]
 refine⟨.inl (k1 j a),h.lb.self,?_⟩
 refine zh4 h1 (hbody.appended (by decide)) (by decide) (mapc c_B _) (mapl n_B _) (by simp at hhl⊢;omega) fun d2 M2 h2 g2=> ?_
 have n2:=g2.nx
 rw[←List.map_append] at h2
 simp(disch:=((try simp only[zb,za,zc]);omega))
 refine sealed_ok h2 (by rw[List.length_append];omega) fun M3 n3 k3=> ?_
 simp(disch:=((try simp only[zb,za,zc]);omega))
 exact hk M3 (by omega) fun i hi=>by
  have hi2:=h.nx i hi
  rw[k3 i (by omega) (g2.of i (by omega) (f1 i (by omega))),g2.kp i (by omega) (f1 i (by omega)),k1 i (by omega)];exact h.sm i hi
attribute [local simp] c_bq f_bq r_bq_1 r_bq_2
theorem write_ok (hk: ∀j M',WrS (bas M) M' j ⟨[],[]⟩→k (.ptr j 0 0) M'):zj F (.fn n_bq [] []) [] M k kp:=by
 refine .fn h_wire_write rfl (by simp[f_bq]) ?_
 simp(disch:=((try simp only[zb,za,zc]);omega))
 refine hk _ _ ⟨.nilS,M.next,.nilS,fun i hi=> ?_,fun i hi=> ?_,?_,?_,?_,?_,?_,?_,.nil _ _,.nil _ _,fun _ _=>⟨trivial,trivial⟩⟩
 ·have hi:i<M.next:=hi
  rw[get_new,if_neg (by simp;omega),get_new,if_neg (by omega)]
 ·have hi:i<M.next:=hi
  simp;omega
 ·simp
 ·simp
 ·simp
 ·simp;omega
 ·simp
 ·rw[zb2 _ (by simp)];simp[entF]
def zfo (t:List Sv):Prop:= ∀x∈t,zcI x
theorem zcI.small {v:Sv} (h:zcI v):zi6 v:=by
 unfold zi6
 rcases h with h|h|h<;>omega
theorem zfo.ment {t:List Sv} (h:zfo t) {v:Sv} (hv:zcI v):zfo (zja t v):=by
 unfold zja
 split
 ·exact h
 ·intro x hx
  rcases List.mem_append.1 hx with hx|hx
  ·exact h x hx
  ·rw[List.mem_singleton.1 hx];exact hv
theorem val_names {w:WS} (h:zfo w.t) {v:Sv} (hv:ValV v):zfo (w.val v).t:=by
 unfold WS.val
 split
 ·rename_i hk
  rw[num_t,ment_t]
  exact h.ment (hv.resolve_right fun q=>hk q.1)
 ·split<;>exact h
theorem vals_len: ∀(l:List Sv) (w:WS),(∀v∈l,ValV v)→zfo w.t→w.t.length+l.length≤10000000→zfo (l.foldl WS.val w).t∧(l.foldl WS.val w).t.length≤w.t.length+l.length∧(zO (l.foldl WS.val w).b).length≤(zO w.b).length+10*l.length
 | [],w,_,h,_=>⟨h,Nat.le_refl _,Nat.le_refl _⟩
 |v::l,w,hv,h,ht=>by
  have hv1:=hv v List.mem_cons_self
  simp only[List.length_cons] at ht⊢
  have h1:=val_len hv1 (w:=w) (by omega)
  obtain⟨a,b,c⟩:=vals_len l (w.val v) (fun x hx=>hv x (List.mem_cons_of_mem _ hx)) (val_names h hv1) (by omega)
  exact⟨a,by show(l.foldl WS.val (w.val v)).t.length≤_;omega,by show(zO (l.foldl WS.val (w.val v)).b).length≤_;omega⟩
theorem svals_len {w:WS} {l:List Sv} (hv: ∀v∈l,ValV v) (h:zfo w.t) (ht:w.t.length+l.length≤10000000):zfo (w.vals l).t∧(w.vals l).t.length≤w.t.length+l.length∧(zO (w.vals l).b).length≤(zO w.b).length+10+10*l.length:=by
 have b1:=big1
 have hn:=zbc l.length (by omega)
 obtain⟨a,b,c⟩:=vals_len l (w.num l.length) hv h ht
 rw[num_b,List.length_append] at c
 exact⟨a,b,by unfold WS.vals;omega⟩
theorem ref_len {w:WS} {v:Sv} (hv:zcI v) (h:zfo w.t) (ht:w.t.length≤10000000):zfo (w.ref v).t∧(w.ref v).t.length≤w.t.length+1∧(zO (w.ref v).b).length≤(zO w.b).length+10:=by
 have b1:=big1
 have hi:w.t.idxOf v≤w.t.length:=List.idxOf_le_length
 have hn:=zbc (w.t.idxOf v) (by omega)
 rw[ref_t,ref_b,List.length_append]
 exact⟨h.ment hv,zkl _ _,by omega⟩
end Go.Ideal.S
