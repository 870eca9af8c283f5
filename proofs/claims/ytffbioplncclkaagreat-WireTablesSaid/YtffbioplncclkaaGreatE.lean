/- A part of the proof: the ideal machine, and what the functions of the program answer over it. -/
import Derived.RowKit
import Derived.OpenShut
import Derived.WideKeyArgs
import Derived.ChangeSame
import Derived.Test.YtffbioplncclkaaGreatD
set_option linter.unusedSimpArgs false
set_option linter.unusedVariables false
set_option linter.unusedSectionVars false
set_option maxRecDepth 100000
open Bool renaming and_eq_true→qb,false_eq_true→qM,eq_false_iff→qO,or_eq_true→qS
open Nat renaming eq_of_beq_eq_true→qd,beq→qh,lt_of_lt_of_le→qk,lt_succ_of_lt→qm,le_of_ble_eq_true→qn,le_refl→qt,le_succ→qu,mul_le_mul_right→qx,and_two_pow_sub_one_eq_mod→qy,two_pow_add_eq_or_of_lt→qB,lt_succ_self→qF,zero_add→qJ,pow_succ→qK,xor_lt_two_pow→qL,mod_eq_of_lt→qQ,mod_lt→qU,min_eq_left→qW,div_le_self→qX
open List renaming all_eq_true→qe,mem_of_getElem?→qi,length_append→ql,idxOf_le_length→qp,take_length→qv,take_succ_eq_append_getElem→qw,mem_cons_of_mem→qI,mem_map→qN,mem_append→qR,map_append→qT,drop_zero→qY,take_zero→qZ
open UInt8 renaming ofNat→qf,toNat_ofNat'→qA,toNat_inj→qV
open Option renaming bind_some→qg,isNone_iff_eq_none→qE
open Option.some renaming inj→qj
open BitVec renaming ofInt→qo
open Array renaming isEmpty_iff→qq,getElem?_eq_none→qr,getElem?_eq_some_iff→qC,isEmpty→qD,mem_of_getElem?→qG,mem_toList_iff→qH,toList_inj→qP
namespace Go.Ideal.Q
section
abbrev n_E:Nat:=5
abbrev n_bG:Nat:=10
abbrev n_2:Nat:=13
abbrev n_L:Nat:=14
abbrev n_7:Nat:=19
abbrev n_H:Nat:=20
abbrev n_bu:Nat:=22
abbrev n_Q:Nat:=23
abbrev n_u:Nat:=24
abbrev n_h:Nat:=25
abbrev n_x:Nat:=26
abbrev n_z:Nat:=37
abbrev n_o:Nat:=38
abbrev n_d:Nat:=39
abbrev n_a:Nat:=40
abbrev n_5:Nat:=41
abbrev n_bL:Nat:=42
abbrev n_Z:Nat:=43
abbrev n_c:Nat:=44
abbrev n_p:Nat:=45
abbrev n_b:Nat:=46
abbrev n_bw:Nat:=49
abbrev n_bp:Nat:=50
abbrev n_bk:Nat:=51
abbrev n_Y:Nat:=52
abbrev n_bF:Nat:=53
abbrev n_1:Nat:=54
abbrev n_y:Nat:=55
abbrev n_D:Nat:=56
abbrev n_C:Nat:=57
abbrev n_g:Nat:=58
abbrev n_9:Nat:=59
abbrev n_bm:Nat:=60
abbrev n_l:Nat:=61
abbrev n_br:Nat:=62
abbrev n_bv:Nat:=63
abbrev n_bj:Nat:=64
abbrev n_r:Nat:=65
abbrev n_S:Nat:=66
abbrev n_K:Nat:=67
abbrev n_bq:Nat:=76
abbrev n_6:Nat:=79
abbrev n_bb:Nat:=84
abbrev n_bs:Nat:=85
abbrev n_bK:Nat:=86
abbrev n_q:Nat:=87
abbrev n_bI:Nat:=88
abbrev n_bJ:Nat:=89
abbrev n_bi:Nat:=90
abbrev n_bt:Nat:=91
abbrev n_bB:Nat:=92
abbrev n_be:Nat:=93
abbrev n_by:Nat:=94
abbrev n_ba:Nat:=95
abbrev n_bd:Nat:=96
abbrev n_bx:Nat:=97
abbrev n_8:Nat:=98
abbrev n_bn:Nat:=99
abbrev n_bl:Nat:=100
abbrev n_I:Nat:=101
abbrev n_bo:Nat:=102
abbrev n_4:Nat:=103
abbrev n_W:Nat:=104
abbrev n_J:Nat:=105
abbrev n_T:Nat:=106
abbrev n_R:Nat:=107
abbrev n_n:Nat:=108
abbrev n_bh:Nat:=109
abbrev n_bc:Nat:=110
abbrev n_m:Nat:=111
abbrev n_s:Nat:=112
abbrev n_bD:Nat:=113
abbrev n_0:Nat:=114
abbrev n_X:Nat:=115
abbrev n_v:Nat:=116
abbrev n_w:Nat:=117
abbrev n_e:Nat:=118
abbrev n_bf:Nat:=119
abbrev n_bg:Nat:=120
abbrev n_P:Nat:=121
abbrev n_V:Nat:=122
abbrev n_G:Nat:=140
abbrev n_3:Nat:=151
abbrev n_bH:Nat:=152
abbrev n_O:Nat:=153
abbrev n_bE:Nat:=154
abbrev n_M:Nat:=155
abbrev n_bC:Nat:=156
abbrev n_A:Nat:=157
abbrev n_bz:Nat:=158
abbrev n_F:Nat:=159
abbrev n_bA:Nat:=160
abbrev n_U:Nat:=161
abbrev n_t:Nat:=172
abbrev n_k:Nat:=173
abbrev n_j:Nat:=174
abbrev n_f:Nat:=175
abbrev n_i:Nat:=176
def r_E_1:List CI:=[mv 4 ff]
def r_E_2:List CI:=[mv 13 (t 0),oo 14 (.blt .lenStr [(t 13)]),bi .gtr 15 (t 14) (i 90000),mv 16 (t 15),gu 16 false (mv 17 (t 1)),gu 16 false (le 18 (t 17)),gu 16 false (bi .gtr 19 (t 18) (i 120)),pk 20 (t 16) tt (t 19)]
def r_E_3:List CI:=[ca 21 n_bG [],mv 4 (t 21)]
def r_E_4:List CI:=[mv 23 (t 0),ca 24 n_bu [(t 23)],mv 22 (t 24),ex 25 22 0,ex 26 22 1,mv 5 (t 25),mv 6 (t 26)]
def r_E_5:List CI:=[mv 28 (t 0),ca 29 n_Q [(t 28)],mv 27 (t 29),ex 30 27 0,ex 31 27 1,mv 7 (t 30),mv 8 (t 31)]
def r_E_6:List CI:=[mv 33 (t 0),mv 34 (t 1),ca 35 n_u [(t 33),(t 34)],mv 32 (t 35),ex 36 32 0,ex 37 32 1,mv 9 (t 36),mv 10 (t 37)]
def r_E_7:List CI:=[mv 39 (t 0),mv 40 (t 1),ca 41 n_h [(t 39),(t 40)],mv 38 (t 41),ex 42 38 0,ex 43 38 1,mv 11 (t 42),mv 12 (t 43)]
def r_E_8:List CI:=[mv 44 (t 5),mv 45 (t 7),ca 46 n_x [(t 44),(t 45)],mv 47 (t 46),gu 47 true (mv 48 (t 6)),gu 47 true (mv 49 (t 8)),gu 47 true (bi .eql 50 (t 48) (t 49)),pk 51 (t 47) (t 50) ff,mv 52 (t 51),gu 52 true (mv 53 (t 9)),gu 52 true (mv 54 (t 11)),gu 52 true (bi .eql 55 (t 53) (t 54)),pk 56 (t 52) (t 55) ff,mv 57 (t 56),gu 57 true (mv 58 (t 10)),gu 57 true (mv 59 (t 12)),gu 57 true (bi .eql 60 (t 58) (t 59)),pk 61 (t 57) (t 60) ff,mv 62 (t 61),gu 62 true (ca 63 n_bG []),pk 64 (t 62) (t 63) ff,mv 4 (t 64)]
def c_E:CC:=(.seq (.ops r_E_1) (bs [0,1]) (.seq (.seq (.ops r_E_2) (bs [0,1,20]) (.cond (t 20) (.seq (.ops r_E_3) (bs [4]) .ret) .skip)) (bs [0,1]) (.seq (.ops r_E_4) (bs [0,1,5,6]) (.seq (.ops r_E_5) (bs [0,1,5,6,7,8]) (.seq (.ops r_E_6) (bs [0,1,5,6,7,8,9,10]) (.seq (.ops r_E_7) (bs [5,6,7,8,9,10,11,12]) (.seq (.ops r_E_8) (bs [4]) .ret)))))))
def f_E:za:=⟨65,[.tmp (bits 4)],c_E,none,none⟩
def r_bL:List CI:=[bx 1 (t 0),oo 2 (.alloc [(.slice none 0 0),(.slice none 0 0),(.slice none 0 0)]),mv 3 (i 0)]
def r_2_2:List CI:=[l 5 1,oo 6 (.blt .lenStr [(t 5)]),bi .gtr 7 (t 6) (i 80000)]
def r_2_3:List CI:=[oo 8 (.build [(.slice none 0 0),(.slice none 0 0),(.slice none 0 0)] []),st 3 2 (t 8),mv 3 (i 3)]
def r_2_4:List CI:=[oo 4 (.alloc [(.slice none 0 0),(.slice none 0 0),(.slice none 0 0)])]
def r_2_5:List CI:=[oo 9 (.makeFunc (.func n_bL) [] [(t 1),(t 4)]),ca 10 n_5 [(t 9)],lo 1 (no 11 10),lo 1 (mv 12 (t 11)),lo 1 (gu 12 false (ln 13 3 4)),lo 1 (gu 12 false (ca 14 n_z [(t 13)])),lo 2 (gu 12 false (no 15 14)),lo 2 (pk 16 (t 12) tt (t 15)),lo 2 (mv 17 (t 16)),lo 2 (gu 17 false (ln 18 3 4)),lo 2 (gu 17 false (ca 19 n_o [(t 18)])),lo 2 (gu 17 false (l 20 1)),lo 3 (gu 17 false (bi .neq 21 (t 19) (t 20))),lo 3 (pk 22 (t 17) tt (t 21))]
def r_2_6:List CI:=[oo 23 (.build [(.slice none 0 0),(.slice none 0 0),(.slice none 0 0)] []),st 3 2 (t 23),mv 3 (i 4)]
def r_2_7:List CI:=[ln 24 3 4,st 3 2 (t 24),mv 3 (i 0)]
def c_2:CC:=(.seq (.ops r_bL) (bs [1,2]) (.seq (.seq (.ops r_2_2) (bs [1,2,7]) (.cond (t 7) (.seq (.ops r_2_3) (bs [2,3]) .ret) .skip)) (bs [1,2]) (.seq (.ops r_2_4) (bs [1,2,4]) (.seq (.seq (.draw r_2_5) (bs [2,4,22]) (.cond (t 22) (.seq (.ops r_2_6) (bs [2,3]) .ret) .skip)) (bs [2,4]) (.seq (.ops r_2_7) (bs [2,3]) .ret)))))
def f_2:za:=⟨25,[.cell (some 3) (bits 2),.tmp (bits 3)],c_2,none,none⟩
def r_L_1:List CI:=[oo 2 (.alloc [(.slice none 0 0),(.slice none 0 0),(.slice none 0 0)]),mv 3 (i 0)]
def r_L_2:List CI:=[mv 6 (t 0),oo 7 (.blt .lenStr [(t 6)]),bi .gtr 8 (t 7) (i 80000)]
def r_L_3:List CI:=[oo 9 (.build [(.slice none 0 0),(.slice none 0 0),(.slice none 0 0)] []),st 3 2 (t 9),mv 3 (i 3)]
def r_L_4:List CI:=[mv 10 (t 0),oo 11 (.blt .lenStr [(t 10)]),bi .lss 12 (t 11) (i 3),mv 13 (t 12),gu 13 false (mv 14 (t 0)),gu 13 false (oo 15 (.strIdx (t 14) (i 0))),gu 13 false (bi .neq 16 (t 15) (.c (.int .u8 80))),pk 17 (t 13) tt (t 16),mv 18 (t 17),gu 18 false (mv 19 (t 0)),gu 18 false (mv 20 (t 0)),gu 18 false (oo 21 (.blt .lenStr [(t 20)])),gu 18 false (bi .sub 22 (t 21) (i 2)),gu 18 false (oo 23 (.strSlice (t 19) none (some (t 22)))),gu 18 false (ca 24 n_p [(t 23)]),gu 18 false (mv 25 (t 0)),gu 18 false (mv 26 (t 0)),gu 18 false (oo 27 (.blt .lenStr [(t 26)])),gu 18 false (bi .sub 28 (t 27) (i 2)),gu 18 false (oo 29 (.strSlice (t 25) (some (t 28)) none)),lo 1 (gu 18 false (bi .neq 30 (t 24) (t 29))),lo 1 (pk 31 (t 18) tt (t 30))]
def r_L_5:List CI:=[oo 32 (.build [(.slice none 0 0),(.slice none 0 0),(.slice none 0 0)] []),st 3 2 (t 32),mv 3 (i 4)]
def r_L_6:List CI:=[mv 34 (t 0),mv 35 (t 0),oo 36 (.blt .lenStr [(t 35)]),bi .sub 37 (t 36) (i 2),oo 38 (.strSlice (t 34) none (some (t 37))),ca 39 n_b [(t 38)],mv 33 (t 39),ex 40 33 0,ex 41 33 1,oo 4 (.alloc [(.slice none 0 0),(.slice none 0 0),(.slice none 0 0)]),st 3 4 (t 40),mv 5 (t 41)]
def r_L_7:List CI:=[mv 42 (t 5),no 43 42,mv 44 (t 43),gu 44 false (ln 45 3 4),gu 44 false (ca 46 n_d [(t 45)]),gu 44 false (no 47 46),pk 48 (t 44) tt (t 47),mv 49 (t 48),gu 49 false (ln 50 3 4),gu 49 false (ca 51 n_a [(t 50)]),gu 49 false (mv 52 (t 0)),gu 49 false (bi .neq 53 (t 51) (t 52)),pk 54 (t 49) tt (t 53)]
def r_L_8:List CI:=[oo 55 (.build [(.slice none 0 0),(.slice none 0 0),(.slice none 0 0)] []),st 3 2 (t 55),mv 3 (i 4)]
def r_L_9:List CI:=[ln 56 3 4,st 3 2 (t 56),mv 3 (i 0)]
def c_L:CC:=(.seq (.ops r_L_1) (bs [0,2]) (.seq (.seq (.ops r_L_2) (bs [0,2,8]) (.cond (t 8) (.seq (.ops r_L_3) (bs [2,3]) .ret) .skip)) (bs [0,2]) (.seq (.seq (.draw r_L_4) (bs [0,2,31]) (.cond (t 31) (.seq (.ops r_L_5) (bs [2,3]) .ret) .skip)) (bs [0,2]) (.seq (.ops r_L_6) (bs [0,2,4,5]) (.seq (.seq (.ops r_L_7) (bs [2,4,54]) (.cond (t 54) (.seq (.ops r_L_8) (bs [2,3]) .ret) .skip)) (bs [2,4]) (.seq (.ops r_L_9) (bs [2,3]) .ret))))))
def f_L:za:=⟨57,[.cell (some 3) (bits 2),.tmp (bits 3)],c_L,none,none⟩
def r_bF:List CI:=[bx 1 (t 0),oo 2 (.alloc [(iI 0),(.slice none 0 0)]),mv 3 (i 0)]
def r_7_2:List CI:=[l 6 1,oo 7 (.blt .lenStr [(t 6)]),bi .gtr 8 (t 7) (i 80000)]
def r_7_3:List CI:=[oo 9 (.build [(iI 0),(.slice none 0 0)] []),st 2 2 (t 9),mv 3 (i 3)]
def r_7_4:List CI:=[oo 4 (.alloc [(iI 0),(.slice none 0 0)])]
def r_7_5:List CI:=[oo 10 (.makeFunc (.func n_bF) [] [(t 1),(t 4)]),mv 5 (t 10)]
def r_7_6:List CI:=[mv 11 (t 5),ca 12 n_5 [(t 11)],lo 1 (no 13 12),lo 1 (mv 14 (t 13)),lo 1 (gu 14 false (ln 15 2 4)),lo 1 (gu 14 false (ca 16 n_bw [(t 15)])),lo 2 (gu 14 false (no 17 16)),lo 2 (pk 18 (t 14) tt (t 17)),lo 2 (mv 19 (t 18)),lo 2 (gu 19 false (ln 20 2 4)),lo 2 (gu 19 false (ca 21 n_bp [(t 20)])),lo 2 (gu 19 false (l 22 1)),lo 3 (gu 19 false (bi .neq 23 (t 21) (t 22))),lo 3 (pk 24 (t 19) tt (t 23))]
def r_7_7:List CI:=[oo 25 (.build [(iI 0),(.slice none 0 0)] []),st 2 2 (t 25),mv 3 (i 4)]
def r_7_8:List CI:=[ln 26 2 4,st 2 2 (t 26),mv 3 (i 0)]
def c_7:CC:=(.seq (.ops r_bF) (bs [1,2]) (.seq (.seq (.ops r_7_2) (bs [1,2,8]) (.cond (t 8) (.seq (.ops r_7_3) (bs [2,3]) .ret) .skip)) (bs [1,2]) (.seq (.ops r_7_4) (bs [1,2,4]) (.seq (.ops r_7_5) (bs [1,2,4,5]) (.seq (.seq (.draw r_7_6) (bs [2,4,24]) (.cond (t 24) (.seq (.ops r_7_7) (bs [2,3]) .ret) .skip)) (bs [2,4]) (.seq (.ops r_7_8) (bs [2,3]) .ret))))))
def f_7:za:=⟨27,[.cell (some 2) (bits 2),.tmp (bits 3)],c_7,none,none⟩
def r_H_1:List CI:=[oo 2 (.alloc [(iI 0),(.slice none 0 0)]),mv 3 (i 0)]
def r_H_2:List CI:=[mv 6 (t 0),oo 7 (.blt .lenStr [(t 6)]),bi .gtr 8 (t 7) (i 80000)]
def r_H_3:List CI:=[oo 9 (.build [(iI 0),(.slice none 0 0)] []),st 2 2 (t 9),mv 3 (i 3)]
def r_H_4:List CI:=[mv 10 (t 0),oo 11 (.blt .lenStr [(t 10)]),bi .lss 12 (t 11) (i 3),mv 13 (t 12),gu 13 false (mv 14 (t 0)),gu 13 false (oo 15 (.strIdx (t 14) (i 0))),gu 13 false (bi .neq 16 (t 15) (.c (.int .u8 77))),pk 17 (t 13) tt (t 16),mv 18 (t 17),gu 18 false (mv 19 (t 0)),gu 18 false (mv 20 (t 0)),gu 18 false (oo 21 (.blt .lenStr [(t 20)])),gu 18 false (bi .sub 22 (t 21) (i 2)),gu 18 false (oo 23 (.strSlice (t 19) none (some (t 22)))),gu 18 false (ca 24 n_p [(t 23)]),gu 18 false (mv 25 (t 0)),gu 18 false (mv 26 (t 0)),gu 18 false (oo 27 (.blt .lenStr [(t 26)])),gu 18 false (bi .sub 28 (t 27) (i 2)),gu 18 false (oo 29 (.strSlice (t 25) (some (t 28)) none)),lo 1 (gu 18 false (bi .neq 30 (t 24) (t 29))),lo 1 (pk 31 (t 18) tt (t 30))]
def r_H_5:List CI:=[oo 32 (.build [(iI 0),(.slice none 0 0)] []),st 2 2 (t 32),mv 3 (i 4)]
def r_H_6:List CI:=[mv 33 (t 0),mv 34 (t 0),oo 35 (.blt .lenStr [(t 34)]),bi .sub 36 (t 35) (i 2),oo 37 (.strSlice (t 33) none (some (t 36))),ca 38 n_D [(t 37)],mv 4 (t 38)]
def r_H_7:List CI:=[mv 39 (t 4),ca 40 n_C [(t 39),(i 3)],oo 41 (.build [(iI 0),(.slice none 0 0)] [(0,1,(t 40))]),oo 5 (.alloc [(iI 0),(.slice none 0 0)]),st 2 5 (t 41)]
def r_H_8:List CI:=[mv 42 (t 4),ca 43 n_g [(t 42)],fa 44 1 5,st 1 44 (t 43)]
def r_H_9:List CI:=[mv 45 (t 4),nc 46 45,fa 47 3 46,l 48 47,mv 49 (t 48),gu 49 false (ln 50 2 5),gu 49 false (ca 51 n_bk [(t 50)]),gu 49 false (no 52 51),pk 53 (t 49) tt (t 52),mv 54 (t 53),gu 54 false (ln 55 2 5),gu 54 false (ca 56 n_Y [(t 55)]),gu 54 false (mv 57 (t 0)),gu 54 false (bi .neq 58 (t 56) (t 57)),pk 59 (t 54) tt (t 58)]
def r_H_10:List CI:=[oo 60 (.build [(iI 0),(.slice none 0 0)] []),st 2 2 (t 60),mv 3 (i 4)]
def r_H_11:List CI:=[ln 61 2 5,st 2 2 (t 61),mv 3 (i 0)]
def c_H:CC:=(.seq (.ops r_H_1) (bs [0,2]) (.seq (.seq (.ops r_H_2) (bs [0,2,8]) (.cond (t 8) (.seq (.ops r_H_3) (bs [2,3]) .ret) .skip)) (bs [0,2]) (.seq (.seq (.draw r_H_4) (bs [0,2,31]) (.cond (t 31) (.seq (.ops r_H_5) (bs [2,3]) .ret) .skip)) (bs [0,2]) (.seq (.ops r_H_6) (bs [0,2,4]) (.seq (.ops r_H_7) (bs [0,2,4,5]) (.seq (.ops r_H_8) (bs [0,2,4,5]) (.seq (.seq (.ops r_H_9) (bs [2,5,59]) (.cond (t 59) (.seq (.ops r_H_10) (bs [2,3]) .ret) .skip)) (bs [2,5]) (.seq (.ops r_H_11) (bs [2,3]) .ret))))))))
def f_H:za:=⟨62,[.cell (some 2) (bits 2),.tmp (bits 3)],c_H,none,none⟩
def r_bu_1:List CI:=[mv 2 (.c (.slice none 0 0)),mv 3 (i 0)]
def r_bu_2:List CI:=[mv 8 (t 0),ca 9 n_9 [(t 8)],mv 7 (t 9),ex 10 7 0,ex 11 7 1,ex 12 7 2,mv 4 (t 10),mv 5 (t 11),mv 6 (t 12)]
def r_bu_3:List CI:=[mv 13 (t 4),mv 14 (t 6),mv 2 (t 13),mv 3 (t 14)]
def c_bu:CC:=(.seq (.ops r_bu_1) (bs [0]) (.seq (.ops r_bu_2) (bs [4,6]) (.seq (.ops r_bu_3) (bs [2,3]) .ret)))
def f_bu:za:=⟨15,[.tmp (bits 2),.tmp (bits 3)],c_bu,none,none⟩
def r_Q_1:List CI:=[mv 2 (.c (.slice none 0 0)),mv 3 (i 0)]
def r_Q_2:List CI:=[mv 8 (t 0),oo 9 (.blt .lenStr [(t 8)]),bi .gtr 10 (t 9) (i 80000)]
def r_Q_3:List CI:=[mv 2 (.c (.slice none 0 0)),mv 3 (i 3)]
def r_Q_4:List CI:=[mv 12 (t 0),ca 13 n_L [(t 12)],mv 11 (t 13),ex 14 11 0,ex 15 11 1,oo 4 (.alloc [(.slice none 0 0),(.slice none 0 0),(.slice none 0 0)]),st 3 4 (t 14),mv 5 (t 15)]
def r_Q_5:List CI:=[mv 17 (t 0),ca 18 n_H [(t 17)],mv 16 (t 18),ex 19 16 0,ex 20 16 1,oo 6 (.alloc [(iI 0),(.slice none 0 0)]),st 2 6 (t 19),mv 7 (t 20)]
def r_Q_6:List CI:=[mv 21 (t 5),bi .neq 22 (t 21) (i 0),mv 23 (t 22),gu 23 true (mv 24 (t 7)),gu 23 true (bi .neq 25 (t 24) (i 0)),pk 26 (t 23) (t 25) ff]
def r_Q_7:List CI:=[mv 2 (.c (.slice none 0 0)),mv 3 (i 4)]
def r_Q_8:List CI:=[mv 27 (t 0),ca 28 n_D [(t 27)],nc 29 28,fa 30 2 29,l 31 30,mv 2 (t 31),mv 3 (i 0)]
def c_Q:CC:=(.seq (.ops r_Q_1) (bs [0]) (.seq (.seq (.ops r_Q_2) (bs [0,10]) (.cond (t 10) (.seq (.ops r_Q_3) (bs [2,3]) .ret) .skip)) (bs [0]) (.seq (.ops r_Q_4) (bs [0,5]) (.seq (.ops r_Q_5) (bs [0,5,7]) (.seq (.seq (.ops r_Q_6) (bs [0,26]) (.cond (t 26) (.seq (.ops r_Q_7) (bs [2,3]) .ret) .skip)) (bs [0]) (.seq (.ops r_Q_8) (bs [2,3]) .ret))))))
def f_Q:za:=⟨32,[.tmp (bits 2),.tmp (bits 3)],c_Q,none,none⟩
def r_br:List CI:=[mv 4 (.c (.string ⟨#[]⟩)),mv 5 (i 0)]
def r_u_2:List CI:=[mv 16 (t 0),oo 17 (.blt .lenStr [(t 16)]),bi .gtr 18 (t 17) (i 80000),mv 19 (t 18),gu 19 false (mv 20 (t 1)),gu 19 false (le 21 (t 20)),gu 19 false (bi .gtr 22 (t 21) (i 100)),pk 23 (t 19) tt (t 22)]
def r_u_3:List CI:=[mv 4 (.c (.string ⟨#[]⟩)),mv 5 (i 3)]
def r_u_4:List CI:=[oo 24 (.makeMap),oo 6 (.alloc [(.map none)]),st 1 6 (t 24)]
def r_u_5:List CI:=[mv 25 (t 1),le 26 (t 25),mv 27 (i 0)]
def r_u_6:List CI:=[bi .lss 28 (t 27) (t 26)]
def r_u_7:List CI:=[ia 29 4 25 (t 27),ln 30 4 29,oo 8 (.alloc [(iI 0),(iI 0),(iI 0),(iI 0)]),st 4 8 (t 30)]
def r_u_8:List CI:=[l 32 6,fa 33 0 8,ln 34 2 33,oo 35 (.lookup (.leaves [0,1]) (.agg ⟨[(iI 0),(iI 0)]⟩) true (t 32) (t 34)),mv 31 (t 35),ex 36 31 0,ex 37 31 1,oo 9 (.alloc [(iI 0),(iI 0)]),st 2 9 (t 36),mv 10 (t 37)]
def r_u_9:List CI:=[mv 38 (t 10),mv 39 (t 38),gu 39 false (fa 40 0 8),gu 39 false (ln 41 2 40),gu 39 false (ca 42 n_bm [(t 41)]),gu 39 false (no 43 42),pk 44 (t 39) tt (t 43),mv 45 (t 44),gu 45 false (fa 46 2 8),gu 45 false (ln 47 2 46),gu 45 false (ca 48 n_bm [(t 47)]),gu 45 false (no 49 48),pk 50 (t 45) tt (t 49),mv 51 (t 50),gu 51 false (fa 52 0 8),gu 51 false (fa 53 0 52),gu 51 false (l 54 53),gu 51 false (fa 55 2 8),gu 51 false (fa 56 0 55),gu 51 false (l 57 56),gu 51 false (bi .neq 58 (t 54) (t 57)),pk 59 (t 51) tt (t 58)]
def r_u_10:List CI:=[mv 4 (.c (.string ⟨#[]⟩)),mv 5 (i 2)]
def r_u_11:List CI:=[l 60 6,fa 61 0 8,ln 62 2 61,fa 63 2 8,ln 64 2 63,on (.mapUpdate (.leaves [0,1]) (t 60) (t 62) (t 64))]
def r_u_12:List CI:=[bi .add 65 (t 27) (i 1),mv 27 (t 65)]
def c_u_13:CC:=(.seq (.ops r_u_6) (bs [0,6,25,26,27,28]) (.seq (.cond (t 28) .skip (.exit 0)) (bs [0,6,25,26,27]) (.seq (.block 2 (.seq (.ops r_u_7) (bs [0,6,8,25,26,27]) (.seq (.seq (.ops r_u_8) (bs [0,6,8,10,25,26,27]) (.seq (.ops r_u_9) (bs [0,6,8,25,26,27,59]) (.cond (t 59) (.seq (.ops r_u_10) (bs [4,5]) .ret) .skip))) (bs [0,6,8,25,26,27]) (.ops r_u_11)))) (bs [0,6,25,26,27]) (.ops r_u_12))))
def r_u_14:List CI:=[mv 67 (t 0),ca 68 n_9 [(t 67)],mv 66 (t 68),ex 69 66 0,ex 70 66 1,ex 71 66 2,mv 11 (t 69),mv 12 (t 70),mv 13 (t 71)]
def r_u_15:List CI:=[mv 72 (t 13),bi .neq 73 (t 72) (i 0)]
def r_u_16:List CI:=[mv 74 (t 13),mv 4 (.c (.string ⟨#[]⟩)),mv 5 (t 74)]
def r_u_17:List CI:=[oo 75 (.makeMap),oo 14 (.alloc [(.map none)]),st 1 14 (t 75)]
def r_u_18:List CI:=[mv 76 (t 11),oo 77 (.makeFunc (.func n_br) [] [(t 6),(t 14)]),ca 78 n_l [(t 76),(t 77)],mv 15 (t 78)]
def r_u_19:List CI:=[l 79 14,oo 80 (.blt .lenMap [(t 79)]),mv 81 (t 15),le 82 (t 81),bi .lss 83 (t 80) (t 82)]
def r_u_20:List CI:=[mv 4 (.c (.string ⟨#[]⟩)),mv 5 (i 7)]
def r_u_21:List CI:=[mv 84 (t 0),oo 85 (.strIdx (t 84) (i 0)),mv 86 (t 15),ca 87 n_bj [(t 85),(t 86)],mv 88 (t 12),ap 89 1 1 (t 87) (t 88),ca 90 n_bv [(t 89)],mv 4 (t 90),mv 5 (i 0)]
def c_u:CC:=(.seq (.ops r_br) (bs [0,1]) (.seq (.seq (.ops r_u_2) (bs [0,1,23]) (.cond (t 23) (.seq (.ops r_u_3) (bs [4,5]) .ret) .skip)) (bs [0,1]) (.seq (.ops r_u_4) (bs [0,1,6]) (.seq (.seq (.ops r_u_5) (bs [0,6,25,26,27]) (.block 0 (.loop (bs [0,6,25,26,27]) c_u_13))) (bs [0,6]) (.seq (.ops r_u_14) (bs [0,6,11,12,13]) (.seq (.seq (.ops r_u_15) (bs [0,6,11,12,13,73]) (.cond (t 73) (.seq (.ops r_u_16) (bs [4,5]) .ret) .skip)) (bs [0,6,11,12]) (.seq (.ops r_u_17) (bs [0,6,11,12,14]) (.seq (.ops r_u_18) (bs [0,12,14,15]) (.seq (.seq (.ops r_u_19) (bs [0,12,15,83]) (.cond (t 83) (.seq (.ops r_u_20) (bs [4,5]) .ret) .skip)) (bs [0,12,15]) (.seq (.ops r_u_21) (bs [4,5]) .ret))))))))))
def f_u:za:=⟨91,[.tmp (bits 4),.tmp (bits 5)],c_u,none,none⟩
def r_h_1:List CI:=[mv 4 (.c (.string ⟨#[]⟩)),mv 5 (i 0)]
def r_h_2:List CI:=[mv 12 (t 0),oo 13 (.blt .lenStr [(t 12)]),bi .gtr 14 (t 13) (i 80000),mv 15 (t 14),gu 15 false (mv 16 (t 1)),gu 15 false (le 17 (t 16)),gu 15 false (bi .gtr 18 (t 17) (i 100)),pk 19 (t 15) tt (t 18)]
def r_h_3:List CI:=[mv 4 (.c (.string ⟨#[]⟩)),mv 5 (i 3)]
def r_h_4:List CI:=[mv 20 (t 1),ca 21 n_r [(t 20)],no 22 21]
def r_h_5:List CI:=[mv 4 (.c (.string ⟨#[]⟩)),mv 5 (i 2)]
def r_h_6:List CI:=[mv 24 (t 0),ca 25 n_Q [(t 24)],mv 23 (t 25),ex 26 23 0,ex 27 23 1,mv 6 (t 26),mv 7 (t 27)]
def r_h_7:List CI:=[mv 28 (t 7),bi .neq 29 (t 28) (i 0)]
def r_h_8:List CI:=[mv 30 (t 7),mv 4 (.c (.string ⟨#[]⟩)),mv 5 (t 30)]
def r_h_9:List CI:=[mv 8 (.c (.slice none 0 0))]
def r_h_10:List CI:=[mv 31 (t 8),mv 32 (t 6),le 33 (t 32),oo 34 (.buildSlice 1 1 [(iI 0)] [(0,(t 33))]),ap 35 1 8 (t 31) (t 34),mv 8 (t 35)]
def r_h_11:List CI:=[mv 9 (i 0)]
def r_h_12:List CI:=[mv 36 (t 9),mv 37 (t 6),le 38 (t 37),bi .lss 39 (t 36) (t 38)]
def r_h_13:List CI:=[mv 42 (t 6),mv 43 (t 9),mv 44 (t 6),mv 45 (t 9),ia 46 2 44 (t 45),ln 47 2 46,mv 48 (t 1),ca 49 n_S [(t 47),(t 48)],ia 50 2 42 (t 43),st 2 50 (t 49)]
def r_h_14:List CI:=[mv 10 (i 0)]
def r_h_15:List CI:=[mv 51 (t 10),mv 52 (t 9),bi .lss 53 (t 51) (t 52)]
def r_h_16:List CI:=[mv 56 (t 6),mv 57 (t 10),ia 58 2 56 (t 57),ln 59 2 58,mv 60 (t 6),mv 61 (t 9),ia 62 2 60 (t 61),ln 63 2 62,oo 64 (.bin .eql (.leaves [0,1]) (t 59) (t 63))]
def r_h_17:List CI:=[mv 4 (.c (.string ⟨#[]⟩)),mv 5 (i 7)]
def r_h_18:List CI:=[mv 54 (t 10),bi .add 55 (t 54) (i 1),mv 10 (t 55)]
def c_h_19:CC:=(.seq (.seq (.ops r_h_15) (bs [0,1,6,8,9,10,53]) (.cond (t 53) .skip (.exit 4))) (bs [0,1,6,8,9,10]) (.seq (.block 6 (.seq (.draw r_h_16) (bs [0,1,6,8,9,10,64]) (.cond (t 64) (.seq (.ops r_h_17) (bs [4,5]) .ret) .skip))) (bs [0,1,6,8,9,10]) (.ops r_h_18)))
def r_h_20:List CI:=[mv 65 (t 8),mv 66 (t 6),mv 67 (t 9),ia 68 2 66 (t 67),fa 69 0 68,l 70 69,mv 71 (t 6),mv 72 (t 9),ia 73 2 71 (t 72),fa 74 1 73,l 75 74,oo 76 (.buildSlice 2 1 [(iI 0)] [(0,(t 70)),(1,(t 75))]),ap 77 1 8 (t 65) (t 76),lo 1 (mv 8 (t 77))]
def r_h_21:List CI:=[mv 40 (t 9),bi .add 41 (t 40) (i 1),mv 9 (t 41)]
def c_h_22:CC:=(.seq (.seq (.ops r_h_12) (bs [0,1,6,8,9,39]) (.cond (t 39) .skip (.exit 0))) (bs [0,1,6,8,9]) (.seq (.block 2 (.seq (.ops r_h_13) (bs [0,1,6,8,9]) (.seq (.seq (.ops r_h_14) (bs [0,1,6,8,9,10]) (.block 4 (.loop (bs [0,1,6,8,9,10]) c_h_19))) (bs [0,1,6,8,9]) (.draw r_h_20)))) (bs [0,1,6,8,9]) (.ops r_h_21)))
def r_h_23:List CI:=[mv 80 (t 8),ca 81 n_K [(t 80)],mv 84 (t 0),lo 1 (ca 85 n_D [(t 84)]),mv 78 (t 0),oo 79 (.strSlice (t 78) none (some (i 1))),lo 1 (bi .add 82 (t 79) (t 81)),mv 83 (t 0),lo 2 (nc 86 85),lo 2 (fa 87 1 86),lo 2 (l 88 87),mv 89 (t 0),oo 90 (.blt .lenStr [(t 89)]),bi .sub 91 (t 90) (i 2),lo 2 (oo 92 (.strSlice (t 83) (some (t 88)) (some (t 91)))),lo 2 (bi .add 93 (t 82) (t 92)),lo 2 (mv 11 (t 93))]
def r_h_24:List CI:=[mv 94 (t 11),mv 95 (t 11),ca 96 n_p [(t 95)],bi .add 97 (t 94) (t 96),mv 4 (t 97),mv 5 (i 0)]
def c_h:CC:=(.seq (.ops r_h_1) (bs [0,1]) (.seq (.seq (.ops r_h_2) (bs [0,1,19]) (.cond (t 19) (.seq (.ops r_h_3) (bs [4,5]) .ret) .skip)) (bs [0,1]) (.seq (.seq (.ops r_h_4) (bs [0,1,22]) (.cond (t 22) (.seq (.ops r_h_5) (bs [4,5]) .ret) .skip)) (bs [0,1]) (.seq (.ops r_h_6) (bs [0,1,6,7]) (.seq (.seq (.ops r_h_7) (bs [0,1,6,7,29]) (.cond (t 29) (.seq (.ops r_h_8) (bs [4,5]) .ret) .skip)) (bs [0,1,6]) (.seq (.ops r_h_9) (bs [0,1,6,8]) (.seq (.ops r_h_10) (bs [0,1,6,8]) (.seq (.seq (.ops r_h_11) (bs [0,1,6,8,9]) (.block 0 (.loop (bs [0,1,6,8,9]) c_h_22))) (bs [0,8]) (.seq (.draw r_h_23) (bs [11]) (.seq (.ops r_h_24) (bs [4,5]) .ret))))))))))
def f_h:za:=⟨98,[.tmp (bits 4),.tmp (bits 5)],c_h,none,none⟩
def r_x_1:List CI:=[mv 4 ff]
def r_x_2:List CI:=[mv 6 (t 0),le 7 (t 6),mv 8 (t 1),le 9 (t 8),bi .neq 10 (t 7) (t 9)]
def r_x_3:List CI:=[mv 4 ff]
def r_x_4:List CI:=[mv 5 (i 0)]
def r_x_5:List CI:=[mv 11 (t 5),mv 12 (t 0),le 13 (t 12),bi .lss 14 (t 11) (t 13)]
def r_x_6:List CI:=[mv 17 (t 0),mv 18 (t 5),ia 19 2 17 (t 18),ln 20 2 19,mv 21 (t 1),mv 22 (t 5),ia 23 2 21 (t 22),ln 24 2 23,oo 25 (.bin .neq (.leaves [0,1]) (t 20) (t 24))]
def r_x_7:List CI:=[mv 4 ff]
def r_x_8:List CI:=[mv 15 (t 5),bi .add 16 (t 15) (i 1),mv 5 (t 16)]
def c_x_9:CC:=(.seq (.seq (.ops r_x_5) (bs [0,1,5,14]) (.cond (t 14) .skip (.exit 0))) (bs [0,1,5]) (.seq (.block 2 (.seq (.draw r_x_6) (bs [0,1,5,25]) (.cond (t 25) (.seq (.ops r_x_7) (bs [4]) .ret) .skip))) (bs [0,1,5]) (.ops r_x_8)))
def r_x_10:List CI:=[mv 4 tt]
def c_x:CC:=(.seq (.ops r_x_1) (bs [0,1]) (.seq (.seq (.ops r_x_2) (bs [0,1,10]) (.cond (t 10) (.seq (.ops r_x_3) (bs [4]) .ret) .skip)) (bs [0,1]) (.seq (.seq (.ops r_x_4) (bs [0,1,5]) (.block 0 (.loop (bs [0,1,5]) c_x_9))) [] (.seq (.ops r_x_10) (bs [4]) .ret))))
def f_x:za:=⟨26,[.tmp (bits 4)],c_x,none,none⟩
def r_bK:List CI:=[bx 1 (t 0),mv 2 ff]
def r_bI:List CI:=[fa 6 0 1,l 7 6,le 8 (t 7),bi .lss 9 (t 8) (i 1),mv 10 (t 9),gu 10 false (fa 11 0 1),gu 10 false (l 12 11),gu 10 false (le 13 (t 12)),gu 10 false (bi .gtr 14 (t 13) (i 24)),pk 15 (t 10) tt (t 14),mv 16 (t 15),gu 16 false (fa 17 1 1),gu 16 false (l 18 17),gu 16 false (le 19 (t 18)),gu 16 false (bi .gtr 20 (t 19) (i 60)),pk 21 (t 16) tt (t 20),mv 22 (t 21),gu 22 false (fa 23 2 1),gu 22 false (l 24 23),gu 22 false (le 25 (t 24)),gu 22 false (bi .gtr 26 (t 25) (i 40)),pk 27 (t 22) tt (t 26)]
def r_bJ:List CI:=[mv 2 ff]
def r_bB:List CI:=[fa 28 0 1,l 29 28,ca 30 n_bb [(t 29)],no 31 30,mv 32 (t 31),gu 32 false (fa 33 0 1),gu 32 false (l 34 33),gu 32 false (ca 35 n_bs [(t 34),(fc n_bK)]),gu 32 false (no 36 35),pk 37 (t 32) tt (t 36)]
def r_z_5:List CI:=[mv 2 ff]
def r_z_6:List CI:=[fa 38 1 1,l 39 38,ca 40 n_q [(t 39),(fc n_bI)],ca 41 n_bb [(t 40)],no 42 41]
def r_z_7:List CI:=[mv 2 ff]
def r_z_8:List CI:=[mv 3 (fc n_bJ)]
def r_z_9:List CI:=[oo 4 (.alloc [(iI 0)]),st 1 4 (i (-1))]
def r_z_10:List CI:=[oo 43 (.makeFunc (.func n_bB) [] [(t 4),(t 1)]),mv 5 (t 43)]
def r_z_11:List CI:=[fa 44 1 1,l 45 44,mv 46 (t 3),ca 47 n_ba [(t 45),(t 46)],mv 48 (t 47),gu 48 true (fa 49 2 1),gu 48 true (l 50 49),gu 48 true (mv 51 (t 5)),gu 48 true (ca 52 n_bd [(t 50),(t 51)]),pk 53 (t 48) (t 52) ff,mv 2 (t 53)]
def c_z:CC:=(.seq (.ops r_bK) (bs [1]) (.seq (.seq (.ops r_bI) (bs [1,27]) (.cond (t 27) (.seq (.ops r_bJ) (bs [2]) .ret) .skip)) (bs [1]) (.seq (.seq (.ops r_bB) (bs [1,37]) (.cond (t 37) (.seq (.ops r_z_5) (bs [2]) .ret) .skip)) (bs [1]) (.seq (.seq (.ops r_z_6) (bs [1,42]) (.cond (t 42) (.seq (.ops r_z_7) (bs [2]) .ret) .skip)) (bs [1]) (.seq (.ops r_z_8) (bs [1,3]) (.seq (.ops r_z_9) (bs [1,3,4]) (.seq (.ops r_z_10) (bs [1,3,5]) (.seq (.ops r_z_11) (bs [2]) .ret))))))))
def f_z:za:=⟨54,[.tmp (bits 2)],c_z,none,none⟩
def r_o_1:List CI:=[bx 1 (t 0),mv 2 (.c (.string ⟨#[]⟩))]
def r_o_2:List CI:=[ca 12 n_bx [],mv 3 (t 12)]
def r_o_3:List CI:=[mv 13 (t 3),fa 14 0 1,l 15 14,le 16 (t 15),ca 17 n_8 [(t 13),(t 16)]]
def r_o_4:List CI:=[fa 18 0 1,l 19 18,le 20 (t 19),mv 21 (i 0)]
def r_o_5:List CI:=[bi .lss 22 (t 21) (t 20)]
def r_o_6:List CI:=[ia 23 1 19 (t 21),l 24 23,mv 5 (t 24)]
def r_o_7:List CI:=[mv 25 (t 3),mv 26 (t 5),ca 27 n_bn [(t 25),(t 26)]]
def r_o_8:List CI:=[bi .add 28 (t 21) (i 1),mv 21 (t 28)]
def c_o_9:CC:=(.seq (.ops r_o_5) (bs [1,3,19,20,21,22]) (.seq (.cond (t 22) .skip (.exit 0)) (bs [1,3,19,20,21]) (.seq (.block 2 (.seq (.ops r_o_6) (bs [1,3,5,19,20,21]) (.ops r_o_7))) (bs [1,3,19,20,21]) (.ops r_o_8))))
def r_o_10:List CI:=[mv 29 (t 3),fa 30 1 1,l 31 30,le 32 (t 31),ca 33 n_8 [(t 29),(t 32)]]
def r_o_11:List CI:=[fa 34 1 1,l 35 34,le 36 (t 35),mv 37 (i 0)]
def r_o_12:List CI:=[bi .lss 38 (t 37) (t 36)]
def r_o_13:List CI:=[ia 39 2 35 (t 37),ln 40 2 39,oo 7 (.alloc [(iI 0),(.slice none 0 0)]),st 2 7 (t 40)]
def r_o_14:List CI:=[mv 41 (t 3),fa 42 0 7,l 43 42,ca 44 n_bl [(t 41),(t 43)]]
def r_o_15:List CI:=[mv 45 (t 3),fa 46 1 7,l 47 46,le 48 (t 47),ca 49 n_8 [(t 45),(t 48)]]
def r_o_16:List CI:=[fa 50 1 7,l 51 50,le 52 (t 51),mv 53 (i 0)]
def r_o_17:List CI:=[bi .lss 54 (t 53) (t 52)]
def r_o_18:List CI:=[ia 55 1 51 (t 53),ln 56 1 55,oo 9 (.alloc [(.slice none 0 0)]),st 1 9 (t 56)]
def r_o_19:List CI:=[mv 57 (t 3),fa 58 0 9,l 59 58,ca 60 n_I [(t 57),(t 59)]]
def r_o_20:List CI:=[bi .add 61 (t 53) (i 1),mv 53 (t 61)]
def c_o_21:CC:=(.seq (.ops r_o_17) (bs [1,3,35,36,37,51,52,53,54]) (.seq (.cond (t 54) .skip (.exit 8)) (bs [1,3,35,36,37,51,52,53]) (.seq (.block 10 (.seq (.ops r_o_18) (bs [1,3,9,35,36,37,51,52,53]) (.ops r_o_19))) (bs [1,3,35,36,37,51,52,53]) (.ops r_o_20))))
def r_o_22:List CI:=[bi .add 62 (t 37) (i 1),mv 37 (t 62)]
def c_o_23:CC:=(.seq (.ops r_o_12) (bs [1,3,35,36,37,38]) (.seq (.cond (t 38) .skip (.exit 4)) (bs [1,3,35,36,37]) (.seq (.block 6 (.seq (.ops r_o_13) (bs [1,3,7,35,36,37]) (.seq (.ops r_o_14) (bs [1,3,7,35,36,37]) (.seq (.ops r_o_15) (bs [1,3,7,35,36,37]) (.seq (.ops r_o_16) (bs [1,3,35,36,37,51,52,53]) (.block 8 (.loop (bs [1,3,35,36,37,51,52,53]) c_o_21))))))) (bs [1,3,35,36,37]) (.ops r_o_22))))
def r_o_24:List CI:=[mv 63 (t 3),fa 64 2 1,l 65 64,le 66 (t 65),ca 67 n_8 [(t 63),(t 66)]]
def r_o_25:List CI:=[fa 68 2 1,l 69 68,le 70 (t 69),mv 71 (i 0)]
def r_o_26:List CI:=[bi .lss 72 (t 71) (t 70)]
def r_o_27:List CI:=[ia 73 4 69 (t 71),ln 74 4 73,oo 11 (.alloc [(iI 0),(iI 0),(iI 0),(.slice none 0 0)]),st 4 11 (t 74)]
def r_o_28:List CI:=[mv 75 (t 3),fa 76 0 11,l 77 76,ca 78 n_8 [(t 75),(t 77)]]
def r_o_29:List CI:=[mv 79 (t 3),fa 80 1 11,fa 81 0 80,l 82 81,ca 83 n_bn [(t 79),(t 82)]]
def r_o_30:List CI:=[mv 84 (t 3),fa 85 1 11,fa 86 1 85,l 87 86,ca 88 n_8 [(t 84),(t 87)]]
def r_o_31:List CI:=[mv 89 (t 3),fa 90 1 11,fa 91 2 90,l 92 91,ca 93 n_I [(t 89),(t 92)]]
def r_o_32:List CI:=[bi .add 94 (t 71) (i 1),mv 71 (t 94)]
def c_o_33:CC:=(.seq (.ops r_o_26) (bs [3,69,70,71,72]) (.seq (.cond (t 72) .skip (.exit 12)) (bs [3,69,70,71]) (.seq (.block 14 (.seq (.ops r_o_27) (bs [3,11,69,70,71]) (.seq (.ops r_o_28) (bs [3,11,69,70,71]) (.seq (.ops r_o_29) (bs [3,11,69,70,71]) (.seq (.ops r_o_30) (bs [3,11,69,70,71]) (.ops r_o_31)))))) (bs [3,69,70,71]) (.ops r_o_32))))
def r_o_34:List CI:=[mv 95 (t 3),ca 96 n_bo [(t 95),(.c (.int .u8 80))],mv 2 (t 96)]
def c_o:CC:=(.seq (.ops r_o_1) (bs [1]) (.seq (.ops r_o_2) (bs [1,3]) (.seq (.ops r_o_3) (bs [1,3]) (.seq (.seq (.ops r_o_4) (bs [1,3,19,20,21]) (.block 0 (.loop (bs [1,3,19,20,21]) c_o_9))) (bs [1,3]) (.seq (.ops r_o_10) (bs [1,3]) (.seq (.seq (.ops r_o_11) (bs [1,3,35,36,37]) (.block 4 (.loop (bs [1,3,35,36,37]) c_o_23))) (bs [1,3]) (.seq (.ops r_o_24) (bs [1,3]) (.seq (.seq (.ops r_o_25) (bs [3,69,70,71]) (.block 12 (.loop (bs [3,69,70,71]) c_o_33))) (bs [3]) (.seq (.ops r_o_34) (bs [2]) .ret)))))))))
def f_o:za:=⟨97,[.tmp (bits 2)],c_o,none,none⟩
def r_d_1:List CI:=[bx 1 (t 0),mv 2 ff]
def r_d_2:List CI:=[fa 8 0 1,l 9 8,le 10 (t 9),ca 11 n_4 [(t 10),(i 1),(i 24)],no 12 11,mv 13 (t 12),gu 13 false (fa 14 1 1),gu 13 false (l 15 14),gu 13 false (le 16 (t 15)),gu 13 false (bi .gtr 17 (t 16) (i 60)),pk 18 (t 13) tt (t 17),mv 19 (t 18),gu 19 false (fa 20 2 1),gu 19 false (l 21 20),gu 19 false (le 22 (t 21)),gu 19 false (bi .gtr 23 (t 22) (i 40)),pk 24 (t 19) tt (t 23)]
def r_d_3:List CI:=[mv 2 ff]
def r_d_4:List CI:=[mv 3 (i 0)]
def r_d_5:List CI:=[mv 25 (t 3),fa 26 0 1,l 27 26,le 28 (t 27),bi .lss 29 (t 25) (t 28)]
def r_d_6:List CI:=[fa 32 0 1,l 33 32,mv 34 (t 3),ia 35 1 33 (t 34),l 36 35,ca 37 n_4 [(t 36),(i 0),(i 23)],lo 1 (no 38 37),lo 1 (mv 39 (t 38)),lo 1 (gu 39 false (fa 40 0 1)),lo 1 (gu 39 false (l 41 40)),lo 1 (gu 39 false (mv 42 (t 3))),lo 1 (gu 39 false (oo 43 (.slice 1 (t 41) none (some (t 42))))),lo 1 (gu 39 false (fa 44 0 1)),lo 1 (gu 39 false (l 45 44)),lo 1 (gu 39 false (mv 46 (t 3))),lo 1 (gu 39 false (ia 47 1 45 (t 46))),lo 1 (gu 39 false (l 48 47)),lo 1 (gu 39 false (ca 49 n_W [(t 43),(t 48)])),lo 2 (pk 50 (t 39) tt (t 49))]
def r_d_7:List CI:=[mv 2 ff]
def r_d_8:List CI:=[mv 30 (t 3),bi .add 31 (t 30) (i 1),mv 3 (t 31)]
def c_d_9:CC:=(.seq (.seq (.ops r_d_5) (bs [1,3,29]) (.cond (t 29) .skip (.exit 0))) (bs [1,3]) (.seq (.block 2 (.seq (.draw r_d_6) (bs [1,3,50]) (.cond (t 50) (.seq (.ops r_d_7) (bs [2]) .ret) .skip))) (bs [1,3]) (.ops r_d_8)))
def r_d_10:List CI:=[mv 4 (i 0)]
def r_d_11:List CI:=[mv 51 (t 4),fa 52 1 1,l 53 52,le 54 (t 53),bi .lss 55 (t 51) (t 54)]
def r_d_12:List CI:=[fa 58 1 1,l 59 58,mv 60 (t 4),ia 61 2 59 (t 60),ln 62 2 61,ca 63 n_J [(t 62)],no 64 63]
def r_d_13:List CI:=[mv 2 ff]
def r_d_14:List CI:=[mv 5 (i 0)]
def r_d_15:List CI:=[mv 65 (t 5),mv 66 (t 4),bi .lss 67 (t 65) (t 66)]
def r_d_16:List CI:=[fa 70 1 1,l 71 70,mv 72 (t 5),ia 73 2 71 (t 72),fa 74 0 73,l 75 74,fa 76 1 1,l 77 76,mv 78 (t 4),ia 79 2 77 (t 78),fa 80 0 79,l 81 80,bi .eql 82 (t 75) (t 81)]
def r_d_17:List CI:=[mv 2 ff]
def r_d_18:List CI:=[mv 68 (t 5),bi .add 69 (t 68) (i 1),mv 5 (t 69)]
def c_d_19:CC:=(.seq (.seq (.ops r_d_15) (bs [1,4,5,67]) (.cond (t 67) .skip (.exit 8))) (bs [1,4,5]) (.seq (.block 10 (.seq (.draw r_d_16) (bs [1,4,5,82]) (.cond (t 82) (.seq (.ops r_d_17) (bs [2]) .ret) .skip))) (bs [1,4,5]) (.ops r_d_18)))
def r_d_20:List CI:=[mv 56 (t 4),bi .add 57 (t 56) (i 1),mv 4 (t 57)]
def c_d_21:CC:=(.seq (.seq (.ops r_d_11) (bs [1,4,55]) (.cond (t 55) .skip (.exit 4))) (bs [1,4]) (.seq (.block 6 (.seq (.seq (.ops r_d_12) (bs [1,4,64]) (.cond (t 64) (.seq (.ops r_d_13) (bs [2]) .ret) .skip)) (bs [1,4]) (.seq (.ops r_d_14) (bs [1,4,5]) (.block 8 (.loop (bs [1,4,5]) c_d_19))))) (bs [1,4]) (.ops r_d_20)))
def r_d_22:List CI:=[mv 6 (i 0)]
def r_d_23:List CI:=[mv 83 (t 6),fa 84 2 1,l 85 84,le 86 (t 85),bi .lss 87 (t 83) (t 86)]
def r_d_24:List CI:=[fa 90 2 1,l 91 90,mv 92 (t 6),ia 93 4 91 (t 92),ln 94 4 93,oo 7 (.alloc [(iI 0),(iI 0),(iI 0),(.slice none 0 0)]),st 4 7 (t 94)]
def r_d_25:List CI:=[fa 95 0 7,l 96 95,ca 97 n_4 [(t 96),(i 0),(i 39)],lo 1 (no 98 97),lo 1 (mv 99 (t 98)),lo 1 (gu 99 false (mv 100 (t 6))),lo 1 (gu 99 false (bi .gtr 101 (t 100) (i 0))),lo 1 (gu 99 false (mv 102 (t 101))),lo 1 (gu 102 true (fa 103 0 7)),lo 1 (gu 102 true (l 104 103)),lo 1 (gu 102 true (fa 105 2 1)),lo 1 (gu 102 true (l 106 105)),lo 1 (gu 102 true (mv 107 (t 6))),lo 1 (gu 102 true (bi .sub 108 (t 107) (i 1))),lo 1 (gu 102 true (ia 109 4 106 (t 108))),lo 1 (gu 102 true (fa 110 0 109)),lo 1 (gu 102 true (l 111 110)),lo 1 (gu 102 true (bi .leq 112 (t 104) (t 111))),lo 1 (gu 99 false (pk 113 (t 102) (t 112) ff)),lo 1 (pk 114 (t 99) tt (t 113))]
def r_d_26:List CI:=[mv 2 ff]
def r_d_27:List CI:=[fa 115 0 1,l 116 115,fa 117 1 7,fa 118 0 117,l 119 118,ca 120 n_W [(t 116),(t 119)],no 121 120,mv 122 (t 121),gu 122 false (fa 123 1 7),gu 122 false (fa 124 1 123),gu 122 false (l 125 124),gu 122 false (ca 126 n_4 [(t 125),(i 0),(i 59)]),gu 122 false (no 127 126),pk 128 (t 122) tt (t 127),mv 129 (t 128),gu 129 false (fa 130 1 7),gu 129 false (fa 131 2 130),gu 129 false (l 132 131),gu 129 false (ca 133 n_T [(t 132)]),gu 129 false (no 134 133),pk 135 (t 129) tt (t 134)]
def r_d_28:List CI:=[mv 2 ff]
def r_d_29:List CI:=[mv 88 (t 6),bi .add 89 (t 88) (i 1),mv 6 (t 89)]
def c_d_30:CC:=(.seq (.seq (.ops r_d_23) (bs [1,6,87]) (.cond (t 87) .skip (.exit 12))) (bs [1,6]) (.seq (.block 14 (.seq (.ops r_d_24) (bs [1,6,7]) (.seq (.seq (.draw r_d_25) (bs [1,6,7,114]) (.cond (t 114) (.seq (.ops r_d_26) (bs [2]) .ret) .skip)) (bs [1,6,7]) (.seq (.ops r_d_27) (bs [1,6,135]) (.cond (t 135) (.seq (.ops r_d_28) (bs [2]) .ret) .skip))))) (bs [1,6]) (.ops r_d_29)))
def r_d_31:List CI:=[mv 2 tt]
def c_d:CC:=(.seq (.ops r_d_1) (bs [1]) (.seq (.seq (.ops r_d_2) (bs [1,24]) (.cond (t 24) (.seq (.ops r_d_3) (bs [2]) .ret) .skip)) (bs [1]) (.seq (.seq (.ops r_d_4) (bs [1,3]) (.block 0 (.loop (bs [1,3]) c_d_9))) (bs [1]) (.seq (.seq (.ops r_d_10) (bs [1,4]) (.block 4 (.loop (bs [1,4]) c_d_21))) (bs [1]) (.seq (.seq (.ops r_d_22) (bs [1,6]) (.block 12 (.loop (bs [1,6]) c_d_30))) [] (.seq (.ops r_d_31) (bs [2]) .ret))))))
def f_d:za:=⟨136,[.tmp (bits 2)],c_d,none,none⟩
def r_a_1:List CI:=[bx 1 (t 0),mv 2 (.c (.string ⟨#[]⟩))]
def r_a_2:List CI:=[oo 3 (.alloc [(.slice none 0 0),(.slice none 0 0)])]
def r_a_3:List CI:=[fa 10 0 1,l 11 10,le 12 (t 11),ca 13 n_R [(t 3),(t 12)]]
def r_a_4:List CI:=[mv 4 (i 0)]
def r_a_5:List CI:=[mv 14 (t 4),fa 15 0 1,l 16 15,le 17 (t 16),bi .lss 18 (t 14) (t 17)]
def r_a_6:List CI:=[fa 21 0 1,l 22 21,mv 23 (t 4),ia 24 1 22 (t 23),l 25 24,ca 26 n_bh [(t 25)],ca 27 n_n [(t 3),(t 26)],ca 28 n_R [(t 3),(t 27)]]
def r_a_7:List CI:=[mv 19 (t 4),bi .add 20 (t 19) (i 1),mv 4 (t 20)]
def c_a_8:CC:=(.seq (.seq (.ops r_a_5) (bs [1,3,4,18]) (.cond (t 18) .skip (.exit 0))) (bs [1,3,4]) (.seq (.block 2 (.ops r_a_6)) (bs [1,3,4]) (.ops r_a_7)))
def r_a_9:List CI:=[fa 29 1 1,l 30 29,le 31 (t 30),ca 32 n_R [(t 3),(t 31)]]
def r_a_10:List CI:=[mv 5 (i 0)]
def r_a_11:List CI:=[mv 33 (t 5),fa 34 1 1,l 35 34,le 36 (t 35),bi .lss 37 (t 33) (t 36)]
def r_a_12:List CI:=[fa 40 1 1,l 41 40,mv 42 (t 5),ia 43 2 41 (t 42),ln 44 2 43,oo 6 (.alloc [(iI 0),(.slice none 0 0)]),st 2 6 (t 44)]
def r_a_13:List CI:=[fa 45 0 6,l 46 45,ca 47 n_bc [(t 46)],ca 48 n_n [(t 3),(t 47)],ca 49 n_R [(t 3),(t 48)]]
def r_a_14:List CI:=[fa 50 1 6,l 51 50,le 52 (t 51),ca 53 n_R [(t 3),(t 52)]]
def r_a_15:List CI:=[mv 7 (i 0)]
def r_a_16:List CI:=[mv 54 (t 7),fa 55 1 6,l 56 55,le 57 (t 56),bi .lss 58 (t 54) (t 57)]
def r_a_17:List CI:=[fa 61 1 6,l 62 61,mv 63 (t 7),ia 64 1 62 (t 63),fa 65 0 64,l 66 65,ca 67 n_m [(t 3),(t 66)]]
def r_a_18:List CI:=[mv 59 (t 7),bi .add 60 (t 59) (i 1),mv 7 (t 60)]
def c_a_19:CC:=(.seq (.seq (.ops r_a_16) (bs [1,3,5,6,7,58]) (.cond (t 58) .skip (.exit 8))) (bs [1,3,5,6,7]) (.seq (.block 10 (.ops r_a_17)) (bs [1,3,5,6,7]) (.ops r_a_18)))
def r_a_20:List CI:=[mv 38 (t 5),bi .add 39 (t 38) (i 1),mv 5 (t 39)]
def c_a_21:CC:=(.seq (.seq (.ops r_a_11) (bs [1,3,5,37]) (.cond (t 37) .skip (.exit 4))) (bs [1,3,5]) (.seq (.block 6 (.seq (.ops r_a_12) (bs [1,3,5,6]) (.seq (.ops r_a_13) (bs [1,3,5,6]) (.seq (.ops r_a_14) (bs [1,3,5,6]) (.seq (.ops r_a_15) (bs [1,3,5,6,7]) (.block 8 (.loop (bs [1,3,5,6,7]) c_a_19))))))) (bs [1,3,5]) (.ops r_a_20)))
def r_a_22:List CI:=[fa 68 2 1,l 69 68,le 70 (t 69),ca 71 n_R [(t 3),(t 70)]]
def r_a_23:List CI:=[mv 8 (i 0)]
def r_a_24:List CI:=[mv 72 (t 8),fa 73 2 1,l 74 73,le 75 (t 74),bi .lss 76 (t 72) (t 75)]
def r_a_25:List CI:=[fa 79 2 1,l 80 79,mv 81 (t 8),ia 82 4 80 (t 81),ln 83 4 82,oo 9 (.alloc [(iI 0),(iI 0),(iI 0),(.slice none 0 0)]),st 4 9 (t 83)]
def r_a_26:List CI:=[fa 84 0 9,l 85 84,ca 86 n_R [(t 3),(t 85)]]
def r_a_27:List CI:=[fa 87 1 9,fa 88 0 87,l 89 88,ca 90 n_bh [(t 89)],ca 91 n_n [(t 3),(t 90)],ca 92 n_R [(t 3),(t 91)]]
def r_a_28:List CI:=[fa 93 1 9,fa 94 1 93,l 95 94,ca 96 n_R [(t 3),(t 95)]]
def r_a_29:List CI:=[fa 97 1 9,fa 98 2 97,l 99 98,ca 100 n_m [(t 3),(t 99)]]
def r_a_30:List CI:=[mv 77 (t 8),bi .add 78 (t 77) (i 1),mv 8 (t 78)]
def c_a_31:CC:=(.seq (.seq (.ops r_a_24) (bs [1,3,8,76]) (.cond (t 76) .skip (.exit 12))) (bs [1,3,8]) (.seq (.block 14 (.seq (.ops r_a_25) (bs [1,3,8,9]) (.seq (.ops r_a_26) (bs [1,3,8,9]) (.seq (.ops r_a_27) (bs [1,3,8,9]) (.seq (.ops r_a_28) (bs [1,3,8,9]) (.ops r_a_29)))))) (bs [1,3,8]) (.ops r_a_30)))
def r_a_32:List CI:=[ca 101 n_s [(t 3),(.c (.int .u8 80))],mv 2 (t 101)]
def c_a:CC:=(.seq (.ops r_a_1) (bs [1]) (.seq (.ops r_a_2) (bs [1,3]) (.seq (.ops r_a_3) (bs [1,3]) (.seq (.seq (.ops r_a_4) (bs [1,3,4]) (.block 0 (.loop (bs [1,3,4]) c_a_8))) (bs [1,3]) (.seq (.ops r_a_9) (bs [1,3]) (.seq (.seq (.ops r_a_10) (bs [1,3,5]) (.block 4 (.loop (bs [1,3,5]) c_a_21))) (bs [1,3]) (.seq (.ops r_a_22) (bs [1,3]) (.seq (.seq (.ops r_a_23) (bs [1,3,8]) (.block 12 (.loop (bs [1,3,8]) c_a_31))) (bs [3]) (.seq (.ops r_a_32) (bs [2]) .ret)))))))))
def f_a:za:=⟨102,[.tmp (bits 2)],c_a,none,none⟩
def r_bD:List CI:=[oo 2 (.alloc [(.bool false)])]
def r_5_2:List CI:=[oo 3 (.makeFunc (.func n_bD) [] [(t 2)])]
def r_5_3:List CI:=[mv 4 (t 0),oo 5 (.call (t 4) [])]
def r_5_4:List CI:=[st 1 2 tt]
def c_5:CC:=(.seq (.ops r_bD) (bs [0,2]) (.ops r_5_2))
def zgX:CC:=(.seq (.ops []) (bs [0,2]) (.seq (.ops r_5_3) (bs [2]) (.seq (.ops r_5_4) (bs [2]) .ret)))
def f_5:za:=⟨6,[.cell none (bits 2)],c_5,some ⟨(t 3),[],(bs [0,2]),zgX⟩,none⟩
def r_bL_1:List CI:=[l 2 0,ca 3 n_Z [(t 2),(.c (.int .u8 80))],ca 4 n_c [(t 3)],st 3 1 (t 4)]
def c_bL:CC:=(.ops r_bL_1)
def f_bL:za:=⟨5,[],c_bL,none,none⟩
def r_Z_1:List CI:=[mv 4 (.c (.pointer none))]
def r_Z_2:List CI:=[mv 9 (t 0),oo 10 (.blt .lenStr [(t 9)]),bi .sub 11 (t 10) (i 2),mv 5 (t 11)]
def r_Z_3:List CI:=[mv 12 (t 5),bi .lss 13 (t 12) (i 1),mv 14 (t 13),gu 14 false (mv 15 (t 0)),gu 14 false (oo 16 (.strIdx (t 15) (i 0))),gu 14 false (mv 17 (t 1)),gu 14 false (bi .neq 18 (t 16) (t 17)),pk 19 (t 14) tt (t 18),mv 20 (t 19),gu 20 false (mv 21 (t 0)),gu 20 false (mv 22 (t 5)),gu 20 false (oo 23 (.strSlice (t 21) none (some (t 22)))),gu 20 false (oo 24 (.s2b (t 23))),lo 1 (gu 20 false (ca 25 n_0 [(t 24)])),lo 2 (gu 20 false (oo 26 (.b2s (t 25)))),gu 20 false (mv 27 (t 0)),gu 20 false (mv 28 (t 5)),gu 20 false (oo 29 (.strSlice (t 27) (some (t 28)) none)),lo 2 (gu 20 false (bi .neq 30 (t 26) (t 29))),lo 2 (pk 31 (t 20) tt (t 30))]
def r_Z_4:List CI:=[oo 32 (.build [] []),oo 33 (.mkI 192 (t 32)),on (.panic (t 33))]
def r_Z_5:List CI:=[mv 34 (t 0),mv 35 (t 5),oo 36 (.strSlice (t 34) (some (i 1)) (some (t 35))),oo 37 (.build [(.slice none 0 0),(.map none),(.string ⟨#[]⟩)] [(2,1,(t 36))]),bx 38 (t 37),mv 6 (t 38)]
def r_Z_6:List CI:=[mv 39 (t 6),ca 40 n_X [(t 39)],mv 41 (i 0)]
def r_Z_7:List CI:=[bi .lss 42 (t 41) (t 40)]
def r_Z_8:List CI:=[mv 43 (t 6),ca 44 n_v [(t 43)],mv 7 (t 44)]
def r_Z_9:List CI:=[mv 45 (t 6),ca 46 n_v [(t 45)],mv 8 (t 46)]
def r_Z_10:List CI:=[mv 47 (t 6),mv 48 (t 6),nc 49 48,fa 50 0 49,fa 51 0 50,l 52 51,mv 53 (t 7),mv 54 (t 8),oo 55 (.build [(iI 0),(iI 0)] [(0,1,(t 53)),(1,1,(t 54))]),oo 56 (.buildSlice 1 2 [(iI 0),(iI 0)] [(0,(t 55))]),ap 57 2 16 (t 52) (t 56),nc 58 47,fa 59 0 58,fa 60 0 59,st 1 60 (t 57)]
def r_Z_11:List CI:=[bi .add 61 (t 41) (i 1),mv 41 (t 61)]
def c_Z_12:CC:=(.seq (.ops r_Z_7) (bs [6,40,41,42]) (.seq (.cond (t 42) .skip (.exit 0)) (bs [6,40,41]) (.seq (.block 2 (.seq (.ops r_Z_8) (bs [6,7,40,41]) (.seq (.ops r_Z_9) (bs [6,7,8,40,41]) (.ops r_Z_10)))) (bs [6,40,41]) (.ops r_Z_11))))
def r_Z_13:List CI:=[mv 62 (t 6),mv 4 (t 62)]
def c_Z:CC:=(.seq (.ops r_Z_1) (bs [0,1]) (.seq (.ops r_Z_2) (bs [0,1,5]) (.seq (.seq (.draw r_Z_3) (bs [0,5,31]) (.cond (t 31) (.ops r_Z_4) .skip)) (bs [0,5]) (.seq (.ops r_Z_5) (bs [6]) (.seq (.seq (.ops r_Z_6) (bs [6,40,41]) (.block 0 (.loop (bs [6,40,41]) c_Z_12))) (bs [6]) (.seq (.ops r_Z_13) (bs [4]) .ret))))))
def f_Z:za:=⟨63,[.tmp (bits 4)],c_Z,none,none⟩
def r_c_1:List CI:=[oo 2 (.alloc [(.slice none 0 0),(.slice none 0 0),(.slice none 0 0)])]
def r_c_2:List CI:=[oo 3 (.alloc [(.slice none 0 0),(.slice none 0 0),(.slice none 0 0)])]
def r_c_3:List CI:=[mv 6 (t 0),ca 7 n_X [(t 6)],mv 8 (i 0)]
def r_c_4:List CI:=[bi .lss 9 (t 8) (t 7)]
def r_c_5:List CI:=[mv 12 (t 0),ca 13 n_1 [(t 12),(i 4)],fa 10 0 3,l 11 10,lo 1 (oo 14 (.buildSlice 1 1 [(iI 0)] [(0,(t 13))])),lo 1 (ap 15 1 8 (t 11) (t 14)),lo 2 (fa 16 0 3),lo 2 (st 1 16 (t 15))]
def r_c_6:List CI:=[bi .add 17 (t 8) (i 1),mv 8 (t 17)]
def c_c_7:CC:=(.seq (.ops r_c_4) (bs [0,2,3,7,8,9]) (.seq (.cond (t 9) .skip (.exit 0)) (bs [0,2,3,7,8]) (.seq (.block 2 (.draw r_c_5)) (bs [0,2,3,7,8]) (.ops r_c_6))))
def r_c_8:List CI:=[mv 18 (t 0),ca 19 n_X [(t 18)],mv 20 (i 0)]
def r_c_9:List CI:=[bi .lss 21 (t 20) (t 19)]
def r_c_10:List CI:=[mv 22 (t 0),ca 23 n_1 [(t 22),(i 3)],oo 24 (.build [(iI 0),(.slice none 0 0)] [(0,1,(t 23))]),oo 4 (.alloc [(iI 0),(.slice none 0 0)]),st 2 4 (t 24)]
def r_c_11:List CI:=[mv 25 (t 0),ca 26 n_X [(t 25)],mv 27 (i 0)]
def r_c_12:List CI:=[bi .lss 28 (t 27) (t 26)]
def r_c_13:List CI:=[mv 31 (t 0),ca 32 n_y [(t 31)],fa 29 1 4,l 30 29,lo 1 (oo 33 (.build [(.slice none 0 0)] [(0,1,(t 32))])),lo 1 (oo 34 (.buildSlice 1 1 [(.slice none 0 0)] [(0,(t 33))])),lo 1 (ap 35 1 24 (t 30) (t 34)),lo 2 (fa 36 1 4),lo 2 (st 1 36 (t 35))]
def r_c_14:List CI:=[bi .add 37 (t 27) (i 1),mv 27 (t 37)]
def c_c_15:CC:=(.seq (.ops r_c_12) (bs [0,2,3,4,19,20,26,27,28]) (.seq (.cond (t 28) .skip (.exit 8)) (bs [0,2,3,4,19,20,26,27]) (.seq (.block 10 (.draw r_c_13)) (bs [0,2,3,4,19,20,26,27]) (.ops r_c_14))))
def r_c_16:List CI:=[fa 38 1 3,l 39 38,ln 40 2 4,oo 41 (.buildSlice 1 2 [(iI 0),(.slice none 0 0)] [(0,(t 40))]),ap 42 2 32 (t 39) (t 41),fa 43 1 3,st 1 43 (t 42)]
def r_c_17:List CI:=[bi .add 44 (t 20) (i 1),mv 20 (t 44)]
def c_c_18:CC:=(.seq (.ops r_c_9) (bs [0,2,3,19,20,21]) (.seq (.cond (t 21) .skip (.exit 4)) (bs [0,2,3,19,20]) (.seq (.block 6 (.seq (.ops r_c_10) (bs [0,2,3,4,19,20]) (.seq (.seq (.ops r_c_11) (bs [0,2,3,4,19,20,26,27]) (.block 8 (.loop (bs [0,2,3,4,19,20,26,27]) c_c_15))) (bs [0,2,3,4,19,20]) (.ops r_c_16)))) (bs [0,2,3,19,20]) (.ops r_c_17))))
def r_c_19:List CI:=[mv 45 (t 0),ca 46 n_X [(t 45)],mv 47 (i 0)]
def r_c_20:List CI:=[bi .lss 48 (t 47) (t 46)]
def r_c_21:List CI:=[oo 5 (.alloc [(iI 0),(iI 0),(iI 0),(.slice none 0 0)])]
def r_c_22:List CI:=[mv 49 (t 0),ca 50 n_v [(t 49)],fa 51 0 5,st 1 51 (t 50)]
def r_c_23:List CI:=[mv 52 (t 0),ca 53 n_1 [(t 52),(i 4)],fa 54 1 5,fa 55 0 54,st 1 55 (t 53)]
def r_c_24:List CI:=[mv 56 (t 0),ca 57 n_v [(t 56)],fa 58 1 5,fa 59 1 58,st 1 59 (t 57)]
def r_c_25:List CI:=[mv 60 (t 0),ca 61 n_y [(t 60)],fa 62 1 5,fa 63 2 62,st 1 63 (t 61)]
def r_c_26:List CI:=[fa 64 2 3,l 65 64,ln 66 4 5,oo 67 (.buildSlice 1 4 [(iI 0),(iI 0),(iI 0),(.slice none 0 0)] [(0,(t 66))]),ap 68 4 48 (t 65) (t 67),fa 69 2 3,st 1 69 (t 68)]
def r_c_27:List CI:=[bi .add 70 (t 47) (i 1),mv 47 (t 70)]
def c_c_28:CC:=(.seq (.ops r_c_20) (bs [0,2,3,46,47,48]) (.seq (.cond (t 48) .skip (.exit 12)) (bs [0,2,3,46,47]) (.seq (.block 14 (.seq (.ops r_c_21) (bs [0,2,3,5,46,47]) (.seq (.ops r_c_22) (bs [0,2,3,5,46,47]) (.seq (.ops r_c_23) (bs [0,2,3,5,46,47]) (.seq (.ops r_c_24) (bs [0,2,3,5,46,47]) (.seq (.ops r_c_25) (bs [0,2,3,5,46,47]) (.ops r_c_26))))))) (bs [0,2,3,46,47]) (.ops r_c_27))))
def r_c_29:List CI:=[ln 71 3 3,st 3 2 (t 71)]
def c_c:CC:=(.seq (.ops r_c_1) (bs [0,2]) (.seq (.ops r_c_2) (bs [0,2,3]) (.seq (.seq (.ops r_c_3) (bs [0,2,3,7,8]) (.block 0 (.loop (bs [0,2,3,7,8]) c_c_7))) (bs [0,2,3]) (.seq (.seq (.ops r_c_8) (bs [0,2,3,19,20]) (.block 4 (.loop (bs [0,2,3,19,20]) c_c_18))) (bs [0,2,3]) (.seq (.seq (.ops r_c_19) (bs [0,2,3,46,47]) (.block 12 (.loop (bs [0,2,3,46,47]) c_c_28))) (bs [2,3]) (.seq (.ops r_c_29) (bs [2]) .ret))))))
def f_c:za:=⟨72,[.cell (some 3) (bits 2)],c_c,none,none⟩
def r_p_1:List CI:=[mv 2 (.c (.string ⟨#[]⟩))]
def r_p_2:List CI:=[mv 3 (i 65535)]
def r_p_3:List CI:=[mv 4 (i 0)]
def r_p_4:List CI:=[mv 8 (t 4),mv 9 (t 0),oo 10 (.blt .lenStr [(t 9)]),bi .lss 11 (t 8) (t 10)]
def r_p_5:List CI:=[mv 5 (i 128)]
def r_p_6:List CI:=[mv 6 (i 0)]
def r_p_7:List CI:=[mv 14 (t 6),bi .lss 15 (t 14) (i 8)]
def r_p_8:List CI:=[mv 18 (t 3),bi .quo 19 (t 18) (i 32768),mv 7 (t 19)]
def r_p_9:List CI:=[mv 20 (t 3),bi .mul 21 (t 20) (i 2),bi .rem 22 (t 21) (i 65536),mv 3 (t 22)]
def r_p_10:List CI:=[mv 23 (t 7),mv 24 (t 0),mv 25 (t 4),oo 26 (.strIdx (t 24) (t 25)),oo 27 (.conv .i64 (t 26)),mv 28 (t 5),bi .quo 29 (t 27) (t 28),bi .rem 30 (t 29) (i 2),bi .neq 31 (t 23) (t 30)]
def r_p_11:List CI:=[mv 32 (t 3),bi .xor 33 (t 32) (i 4129),mv 3 (t 33)]
def r_p_12:List CI:=[mv 34 (t 5),bi .quo 35 (t 34) (i 2),mv 5 (t 35)]
def r_p_13:List CI:=[mv 16 (t 6),bi .add 17 (t 16) (i 1),mv 6 (t 17)]
def c_p_14:CC:=(.seq (.seq (.ops r_p_7) (bs [0,3,4,5,6,15]) (.cond (t 15) .skip (.exit 4))) (bs [0,3,4,5,6]) (.seq (.block 6 (.seq (.ops r_p_8) (bs [0,3,4,5,6,7]) (.seq (.ops r_p_9) (bs [0,3,4,5,6,7]) (.seq (.seq (.ops r_p_10) (bs [0,3,4,5,6,31]) (.cond (t 31) (.ops r_p_11) .skip)) (bs [0,3,4,5,6]) (.ops r_p_12))))) (bs [0,3,4,5,6]) (.ops r_p_13)))
def r_p_15:List CI:=[mv 12 (t 4),bi .add 13 (t 12) (i 1),mv 4 (t 13)]
def c_p_16:CC:=(.seq (.seq (.ops r_p_4) (bs [0,3,4,11]) (.cond (t 11) .skip (.exit 0))) (bs [0,3,4]) (.seq (.block 2 (.seq (.ops r_p_5) (bs [0,3,4,5]) (.seq (.ops r_p_6) (bs [0,3,4,5,6]) (.block 4 (.loop (bs [0,3,4,5,6]) c_p_14))))) (bs [0,3,4]) (.ops r_p_15)))
def r_p_17:List CI:=[mv 36 (t 3),bi .quo 37 (t 36) (i 256),oo 38 (.conv .u8 (t 37)),mv 39 (t 3),bi .rem 40 (t 39) (i 256),oo 41 (.conv .u8 (t 40)),oo 42 (.buildSlice 2 1 [(.int .u8 0)] [(0,(t 38)),(1,(t 41))]),oo 43 (.b2s (t 42)),mv 2 (t 43)]
def c_p:CC:=(.seq (.ops r_p_1) (bs [0]) (.seq (.ops r_p_2) (bs [0,3]) (.seq (.seq (.ops r_p_3) (bs [0,3,4]) (.block 0 (.loop (bs [0,3,4]) c_p_16))) (bs [3]) (.seq (.ops r_p_17) (bs [2]) .ret))))
def f_p:za:=⟨44,[.tmp (bits 2)],c_p,none,none⟩
def r_b_1:List CI:=[oo 2 (.alloc [(.slice none 0 0),(.slice none 0 0),(.slice none 0 0)]),mv 3 ff]
def r_b_2:List CI:=[oo 4 (.alloc [(.slice none 0 0),(.slice none 0 0),(.slice none 0 0)])]
def r_b_3:List CI:=[mv 14 (t 0),ca 15 n_D [(t 14)],mv 5 (t 15)]
def r_b_4:List CI:=[mv 16 (t 5),ca 17 n_w [(t 16)],mv 6 (t 17)]
def r_b_5:List CI:=[mv 7 (i 0)]
def r_b_6:List CI:=[mv 18 (t 7),mv 19 (t 6),bi .lss 20 (t 18) (t 19)]
def r_b_7:List CI:=[mv 25 (t 5),ca 26 n_C [(t 25),(i 4)],fa 23 0 4,l 24 23,lo 1 (oo 27 (.buildSlice 1 1 [(iI 0)] [(0,(t 26))])),lo 1 (ap 28 1 8 (t 24) (t 27)),lo 2 (fa 29 0 4),lo 2 (st 1 29 (t 28))]
def r_b_8:List CI:=[mv 21 (t 7),bi .add 22 (t 21) (i 1),mv 7 (t 22)]
def c_b_9:CC:=(.seq (.seq (.ops r_b_6) (bs [2,4,5,6,7,20]) (.cond (t 20) .skip (.exit 0))) (bs [2,4,5,6,7]) (.seq (.block 2 (.draw r_b_7)) (bs [2,4,5,6,7]) (.ops r_b_8)))
def r_b_10:List CI:=[mv 30 (t 5),ca 31 n_w [(t 30)],mv 6 (t 31)]
def r_b_11:List CI:=[mv 8 (i 0)]
def r_b_12:List CI:=[mv 32 (t 8),mv 33 (t 6),bi .lss 34 (t 32) (t 33)]
def r_b_13:List CI:=[mv 37 (t 5),ca 38 n_C [(t 37),(i 3)],oo 39 (.build [(iI 0),(.slice none 0 0)] [(0,1,(t 38))]),oo 9 (.alloc [(iI 0),(.slice none 0 0)]),st 2 9 (t 39)]
def r_b_14:List CI:=[mv 40 (t 5),ca 41 n_w [(t 40)],mv 10 (t 41)]
def r_b_15:List CI:=[mv 11 (i 0)]
def r_b_16:List CI:=[mv 42 (t 11),mv 43 (t 10),bi .lss 44 (t 42) (t 43)]
def r_b_17:List CI:=[mv 49 (t 5),ca 50 n_g [(t 49)],fa 47 1 9,l 48 47,lo 1 (oo 51 (.build [(.slice none 0 0)] [(0,1,(t 50))])),lo 1 (oo 52 (.buildSlice 1 1 [(.slice none 0 0)] [(0,(t 51))])),lo 1 (ap 53 1 24 (t 48) (t 52)),lo 2 (fa 54 1 9),lo 2 (st 1 54 (t 53))]
def r_b_18:List CI:=[mv 45 (t 11),bi .add 46 (t 45) (i 1),mv 11 (t 46)]
def c_b_19:CC:=(.seq (.seq (.ops r_b_16) (bs [2,4,5,6,8,9,10,11,44]) (.cond (t 44) .skip (.exit 8))) (bs [2,4,5,6,8,9,10,11]) (.seq (.block 10 (.draw r_b_17)) (bs [2,4,5,6,8,9,10,11]) (.ops r_b_18)))
def r_b_20:List CI:=[fa 55 1 4,l 56 55,ln 57 2 9,oo 58 (.buildSlice 1 2 [(iI 0),(.slice none 0 0)] [(0,(t 57))]),ap 59 2 32 (t 56) (t 58),fa 60 1 4,st 1 60 (t 59)]
def r_b_21:List CI:=[mv 35 (t 8),bi .add 36 (t 35) (i 1),mv 8 (t 36)]
def c_b_22:CC:=(.seq (.seq (.ops r_b_12) (bs [2,4,5,6,8,34]) (.cond (t 34) .skip (.exit 4))) (bs [2,4,5,6,8]) (.seq (.block 6 (.seq (.ops r_b_13) (bs [2,4,5,6,8,9]) (.seq (.ops r_b_14) (bs [2,4,5,6,8,9,10]) (.seq (.seq (.ops r_b_15) (bs [2,4,5,6,8,9,10,11]) (.block 8 (.loop (bs [2,4,5,6,8,9,10,11]) c_b_19))) (bs [2,4,5,6,8,9]) (.ops r_b_20))))) (bs [2,4,5,6,8]) (.ops r_b_21)))
def r_b_23:List CI:=[mv 61 (t 5),ca 62 n_w [(t 61)],mv 6 (t 62)]
def r_b_24:List CI:=[mv 12 (i 0)]
def r_b_25:List CI:=[mv 63 (t 12),mv 64 (t 6),bi .lss 65 (t 63) (t 64)]
def r_b_26:List CI:=[mv 68 (t 5),ca 69 n_e [(t 68)],oo 70 (.build [(iI 0),(iI 0),(iI 0),(.slice none 0 0)] [(0,1,(t 69))]),oo 13 (.alloc [(iI 0),(iI 0),(iI 0),(.slice none 0 0)]),st 4 13 (t 70)]
def r_b_27:List CI:=[mv 71 (t 5),ca 72 n_C [(t 71),(i 4)],fa 73 1 13,fa 74 0 73,st 1 74 (t 72)]
def r_b_28:List CI:=[mv 75 (t 5),ca 76 n_e [(t 75)],fa 77 1 13,fa 78 1 77,st 1 78 (t 76)]
def r_b_29:List CI:=[mv 79 (t 5),ca 80 n_g [(t 79)],fa 81 1 13,fa 82 2 81,st 1 82 (t 80)]
def r_b_30:List CI:=[fa 83 2 4,l 84 83,ln 85 4 13,oo 86 (.buildSlice 1 4 [(iI 0),(iI 0),(iI 0),(.slice none 0 0)] [(0,(t 85))]),ap 87 4 48 (t 84) (t 86),fa 88 2 4,st 1 88 (t 87)]
def r_b_31:List CI:=[mv 66 (t 12),bi .add 67 (t 66) (i 1),mv 12 (t 67)]
def c_b_32:CC:=(.seq (.seq (.ops r_b_25) (bs [2,4,5,6,12,65]) (.cond (t 65) .skip (.exit 12))) (bs [2,4,5,6,12]) (.seq (.block 14 (.seq (.ops r_b_26) (bs [2,4,5,6,12,13]) (.seq (.ops r_b_27) (bs [2,4,5,6,12,13]) (.seq (.ops r_b_28) (bs [2,4,5,6,12,13]) (.seq (.ops r_b_29) (bs [2,4,5,6,12,13]) (.ops r_b_30)))))) (bs [2,4,5,6,12]) (.ops r_b_31)))
def r_b_33:List CI:=[ln 89 3 4,st 3 2 (t 89),mv 90 (t 5),nc 91 90,fa 92 3 91,l 93 92,no 94 93,lo 1 (mv 3 (t 94))]
def c_b:CC:=(.seq (.ops r_b_1) (bs [0,2]) (.seq (.ops r_b_2) (bs [0,2,4]) (.seq (.ops r_b_3) (bs [2,4,5]) (.seq (.ops r_b_4) (bs [2,4,5,6]) (.seq (.seq (.ops r_b_5) (bs [2,4,5,6,7]) (.block 0 (.loop (bs [2,4,5,6,7]) c_b_9))) (bs [2,4,5]) (.seq (.ops r_b_10) (bs [2,4,5,6]) (.seq (.seq (.ops r_b_11) (bs [2,4,5,6,8]) (.block 4 (.loop (bs [2,4,5,6,8]) c_b_22))) (bs [2,4,5]) (.seq (.ops r_b_23) (bs [2,4,5,6]) (.seq (.seq (.ops r_b_24) (bs [2,4,5,6,12]) (.block 12 (.loop (bs [2,4,5,6,12]) c_b_32))) (bs [2,4,5]) (.seq (.draw r_b_33) (bs [2,3]) .ret))))))))))
def f_b:za:=⟨95,[.cell (some 3) (bits 2),.tmp (bits 3)],c_b,none,none⟩
def r_bw_1:List CI:=[bx 1 (t 0),mv 2 ff]
def r_bw_2:List CI:=[fa 3 0 1,l 4 3,ca 5 n_bq [(t 4),(i 60)],mv 6 (t 5),gu 6 true (fa 7 1 1),gu 6 true (l 8 7),gu 6 true (oo 9 (.build [(.slice none 0 0)] [(0,1,(t 8))])),gu 6 true (ca 10 n_bt [(t 9)]),pk 11 (t 6) (t 10) ff,mv 2 (t 11)]
def c_bw:CC:=(.seq (.ops r_bw_1) (bs [1]) (.seq (.ops r_bw_2) (bs [2]) .ret))
def f_bw:za:=⟨12,[.tmp (bits 2)],c_bw,none,none⟩
def r_bp_1:List CI:=[bx 1 (t 0),mv 2 (.c (.string ⟨#[]⟩))]
def r_bp_2:List CI:=[ca 4 n_bx [],mv 3 (t 4)]
def r_bp_3:List CI:=[mv 5 (t 3),fa 6 0 1,l 7 6,ca 8 n_bl [(t 5),(t 7)]]
def r_bp_4:List CI:=[mv 9 (t 3),fa 10 1 1,l 11 10,ca 12 n_I [(t 9),(t 11)]]
def r_bp_5:List CI:=[mv 13 (t 3),ca 14 n_bo [(t 13),(.c (.int .u8 77))],mv 2 (t 14)]
def c_bp:CC:=(.seq (.ops r_bp_1) (bs [1]) (.seq (.ops r_bp_2) (bs [1,3]) (.seq (.ops r_bp_3) (bs [1,3]) (.seq (.ops r_bp_4) (bs [3]) (.seq (.ops r_bp_5) (bs [2]) .ret)))))
def f_bp:za:=⟨15,[.tmp (bits 2)],c_bp,none,none⟩
def r_bk_1:List CI:=[bx 1 (t 0),mv 2 ff]
def r_bk_2:List CI:=[fa 3 0 1,l 4 3,ca 5 n_4 [(t 4),(i 0),(i 59)],mv 6 (t 5),gu 6 true (fa 7 1 1),gu 6 true (l 8 7),gu 6 true (le 9 (t 8)),gu 6 true (bi .leq 10 (t 9) (i 3)),pk 11 (t 6) (t 10) ff,mv 12 (t 11),gu 12 true (fa 13 1 1),gu 12 true (l 14 13),gu 12 true (ca 15 n_T [(t 14)]),pk 16 (t 12) (t 15) ff,mv 2 (t 16)]
def c_bk:CC:=(.seq (.ops r_bk_1) (bs [1]) (.seq (.ops r_bk_2) (bs [2]) .ret))
def f_bk:za:=⟨17,[.tmp (bits 2)],c_bk,none,none⟩
def r_Y_1:List CI:=[bx 1 (t 0),mv 2 (.c (.string ⟨#[]⟩))]
def r_Y_2:List CI:=[oo 3 (.alloc [(.slice none 0 0),(.slice none 0 0)])]
def r_Y_3:List CI:=[fa 4 0 1,l 5 4,ca 6 n_bc [(t 5)],ca 7 n_n [(t 3),(t 6)],ca 8 n_R [(t 3),(t 7)]]
def r_Y_4:List CI:=[fa 9 1 1,l 10 9,ca 11 n_m [(t 3),(t 10)]]
def r_Y_5:List CI:=[ca 12 n_s [(t 3),(.c (.int .u8 77))],mv 2 (t 12)]
def c_Y:CC:=(.seq (.ops r_Y_1) (bs [1]) (.seq (.ops r_Y_2) (bs [1,3]) (.seq (.ops r_Y_3) (bs [1,3]) (.seq (.ops r_Y_4) (bs [3]) (.seq (.ops r_Y_5) (bs [2]) .ret)))))
def f_Y:za:=⟨13,[.tmp (bits 2)],c_Y,none,none⟩
def r_bF_1:List CI:=[l 3 0,ca 4 n_Z [(t 3),(.c (.int .u8 77))],mv 2 (t 4)]
def r_bF_2:List CI:=[mv 5 (t 2),ca 6 n_1 [(t 5),(i 3)],fa 7 0 1,st 1 7 (t 6)]
def r_bF_3:List CI:=[mv 8 (t 2),ca 9 n_y [(t 8)],fa 10 1 1,st 1 10 (t 9)]
def c_bF:CC:=(.seq (.ops r_bF_1) (bs [1,2]) (.seq (.ops r_bF_2) (bs [1,2]) (.ops r_bF_3)))
def f_bF:za:=⟨11,[],c_bF,none,none⟩
def r_1_1:List CI:=[mv 4 (i 0)]
def r_1_2:List CI:=[mv 6 (t 0),mv 7 (t 0),ca 8 n_v [(t 7)],ca 9 n_bf [(t 6),(t 8)],oo 5 (.alloc [(iI 0),(iI 0)]),st 2 5 (t 9)]
def r_1_3:List CI:=[fa 10 0 5,l 11 10,mv 12 (t 1),bi .neq 13 (t 11) (t 12)]
def r_1_4:List CI:=[oo 14 (.build [] []),oo 15 (.mkI 192 (t 14)),on (.panic (t 15))]
def r_1_5:List CI:=[fa 16 1 5,l 17 16,mv 4 (t 17)]
def c_1:CC:=(.seq (.ops r_1_1) (bs [0,1]) (.seq (.ops r_1_2) (bs [1,5]) (.seq (.seq (.ops r_1_3) (bs [5,13]) (.cond (t 13) (.ops r_1_4) .skip)) (bs [5]) (.seq (.ops r_1_5) (bs [4]) .ret))))
def f_1:za:=⟨18,[.tmp (bits 4)],c_1,none,none⟩
def r_y_1:List CI:=[mv 2 (.c (.slice none 0 0))]
def r_y_2:List CI:=[mv 3 (.c (.slice none 0 0))]
def r_y_3:List CI:=[mv 5 (t 0),ca 6 n_X [(t 5)],mv 7 (i 0)]
def r_y_4:List CI:=[bi .lss 8 (t 7) (t 6)]
def r_y_5:List CI:=[mv 9 (t 0),ca 10 n_v [(t 9)],mv 4 (t 10)]
def r_y_6:List CI:=[mv 20 (t 4),bi .and 21 (t 20) (i 1),bi .eql 22 (t 21) (i 1),mv 19 (t 22)]
def r_y_7:List CI:=[mv 23 (t 3),mv 24 (t 0),mv 25 (t 4),bi .shr 26 (t 25) (.c (.int .u64 1)),ca 27 n_bf [(t 24),(t 26)],oo 28 (.buildSlice 1 2 [(iI 0),(iI 0)] [(0,(t 27))]),ap 29 2 16 (t 23) (t 28),mv 3 (t 29)]
def r_y_8:List CI:=[mv 31 (t 4),bi .and 32 (t 31) (i 2),bi .eql 33 (t 32) (i 0),mv 30 (t 33)]
def r_y_9:List CI:=[mv 34 (t 3),mv 35 (t 4),bi .shr 36 (t 35) (.c (.int .u64 2)),oo 37 (.build [(iI 0),(iI 0)] [(0,1,(i 1)),(1,1,(t 36))]),oo 38 (.buildSlice 1 2 [(iI 0),(iI 0)] [(0,(t 37))]),ap 39 2 16 (t 34) (t 38),mv 3 (t 39)]
def r_y_10:List CI:=[mv 11 (t 3),mv 12 (t 4),bi .shr 13 (t 12) (.c (.int .u64 2)),oo 14 (.un .neg (t 13)),bi .sub 15 (t 14) (i 1),oo 16 (.build [(iI 0),(iI 0)] [(0,1,(i 1)),(1,1,(t 15))]),oo 17 (.buildSlice 1 2 [(iI 0),(iI 0)] [(0,(t 16))]),ap 18 2 16 (t 11) (t 17),mv 3 (t 18)]
def r_y_11:List CI:=[bi .add 40 (t 7) (i 1),mv 7 (t 40)]
def c_y_12:CC:=(.seq (.ops r_y_4) (bs [0,3,6,7,8]) (.seq (.cond (t 8) .skip (.exit 0)) (bs [0,3,6,7]) (.seq (.block 2 (.seq (.ops r_y_5) (bs [0,3,4,6,7]) (.block 4 (.seq (.ops r_y_6) (bs [0,3,4,6,7,19]) (.cond (t 19) (.ops r_y_7) (.seq (.ops r_y_8) (bs [0,3,4,6,7,30]) (.cond (t 30) (.ops r_y_9) (.ops r_y_10)))))))) (bs [0,3,6,7]) (.ops r_y_11))))
def r_y_13:List CI:=[mv 41 (t 3),mv 2 (t 41)]
def c_y:CC:=(.seq (.ops r_y_1) (bs [0]) (.seq (.ops r_y_2) (bs [0,3]) (.seq (.seq (.ops r_y_3) (bs [0,3,6,7]) (.block 0 (.loop (bs [0,3,6,7]) c_y_12))) (bs [3]) (.seq (.ops r_y_13) (bs [2]) .ret))))
def f_y:za:=⟨42,[.tmp (bits 2)],c_y,none,none⟩
def r_D_1:List CI:=[mv 2 (.c (.pointer none))]
def r_D_2:List CI:=[mv 7 (t 0),oo 8 (.build [(.string ⟨#[]⟩),(iI 0),(.slice none 0 0),(.bool false)] [(0,1,(t 7)),(1,1,(i 1))]),bx 9 (t 8),mv 3 (t 9)]
def r_D_3:List CI:=[mv 10 (t 3),ca 11 n_w [(t 10)],mv 4 (t 11)]
def r_D_4:List CI:=[mv 5 (i 0)]
def r_D_5:List CI:=[mv 12 (t 5),mv 13 (t 4),bi .lss 14 (t 12) (t 13)]
def r_D_6:List CI:=[mv 17 (t 3),ca 18 n_e [(t 17)],mv 6 (t 18)]
def r_D_7:List CI:=[mv 25 (t 3),ca 26 n_e [(t 25)],mv 20 (t 3),nc 21 20,fa 22 2 21,l 23 22,mv 24 (t 6),lo 1 (oo 27 (.build [(iI 0),(iI 0)] [(0,1,(t 24)),(1,1,(t 26))])),lo 1 (oo 28 (.buildSlice 1 2 [(iI 0),(iI 0)] [(0,(t 27))])),lo 1 (ap 29 2 16 (t 23) (t 28)),mv 19 (t 3),lo 2 (nc 30 19),lo 2 (fa 31 2 30),lo 2 (st 1 31 (t 29))]
def r_D_8:List CI:=[mv 15 (t 5),bi .add 16 (t 15) (i 1),mv 5 (t 16)]
def c_D_9:CC:=(.seq (.seq (.ops r_D_5) (bs [3,4,5,14]) (.cond (t 14) .skip (.exit 0))) (bs [3,4,5]) (.seq (.block 2 (.seq (.ops r_D_6) (bs [3,4,5,6]) (.draw r_D_7))) (bs [3,4,5]) (.ops r_D_8)))
def r_D_10:List CI:=[mv 32 (t 3),mv 2 (t 32)]
def c_D:CC:=(.seq (.ops r_D_1) (bs [0]) (.seq (.ops r_D_2) (bs [3]) (.seq (.ops r_D_3) (bs [3,4]) (.seq (.seq (.ops r_D_4) (bs [3,4,5]) (.block 0 (.loop (bs [3,4,5]) c_D_9))) (bs [3]) (.seq (.ops r_D_10) (bs [2]) .ret)))))
def f_D:za:=⟨33,[.tmp (bits 2)],c_D,none,none⟩
def r_C_1:List CI:=[mv 4 (i 0)]
def r_C_2:List CI:=[mv 6 (t 0),ca 7 n_e [(t 6)],mv 5 (t 7)]
def r_C_3:List CI:=[mv 8 (t 5),mv 9 (t 0),nc 10 9,fa 11 2 10,l 12 11,le 13 (t 12),bi .geq 14 (t 8) (t 13),mv 15 (t 14),gu 15 false (mv 16 (t 0)),gu 15 false (nc 17 16),gu 15 false (fa 18 2 17),gu 15 false (l 19 18),gu 15 false (mv 20 (t 5)),gu 15 false (ia 21 2 19 (t 20)),gu 15 false (fa 22 0 21),gu 15 false (l 23 22),gu 15 false (mv 24 (t 1)),gu 15 false (bi .neq 25 (t 23) (t 24)),pk 26 (t 15) tt (t 25)]
def r_C_4:List CI:=[mv 27 (t 0),nc 28 27,fa 29 3 28,st 1 29 tt]
def r_C_5:List CI:=[mv 4 (i 0)]
def r_C_6:List CI:=[mv 30 (t 0),nc 31 30,fa 32 2 31,l 33 32,mv 34 (t 5),ia 35 2 33 (t 34),fa 36 1 35,l 37 36,mv 4 (t 37)]
def c_C:CC:=(.seq (.ops r_C_1) (bs [0,1]) (.seq (.ops r_C_2) (bs [0,1,5]) (.seq (.seq (.ops r_C_3) (bs [0,5,26]) (.cond (t 26) (.seq (.ops r_C_4) [] (.seq (.ops r_C_5) (bs [4]) .ret)) .skip)) (bs [0,5]) (.seq (.ops r_C_6) (bs [4]) .ret))))
def f_C:za:=⟨38,[.tmp (bits 4)],c_C,none,none⟩
def r_g_1:List CI:=[mv 2 (.c (.slice none 0 0))]
def r_g_2:List CI:=[mv 3 (.c (.slice none 0 0))]
def r_g_3:List CI:=[mv 7 (t 0),ca 8 n_w [(t 7)],mv 4 (t 8)]
def r_g_4:List CI:=[mv 5 (i 0)]
def r_g_5:List CI:=[mv 9 (t 5),mv 10 (t 4),bi .lss 11 (t 9) (t 10)]
def r_g_6:List CI:=[mv 14 (t 0),ca 15 n_e [(t 14)],mv 6 (t 15)]
def r_g_7:List CI:=[mv 16 (t 6),bi .rem 17 (t 16) (i 2),bi .eql 18 (t 17) (i 1)]
def r_g_8:List CI:=[mv 19 (t 6),bi .quo 20 (t 19) (i 2),mv 21 (t 0),nc 22 21,fa 23 2 22,l 24 23,le 25 (t 24),bi .geq 26 (t 20) (t 25)]
def r_g_9:List CI:=[mv 27 (t 0),nc 28 27,fa 29 3 28,st 1 29 tt]
def r_g_10:List CI:=[mv 2 (.c (.slice none 0 0))]
def r_g_11:List CI:=[mv 30 (t 3),mv 31 (t 0),nc 32 31,fa 33 2 32,l 34 33,mv 35 (t 6),bi .quo 36 (t 35) (i 2),ia 37 2 34 (t 36),ln 38 2 37,oo 39 (.buildSlice 1 2 [(iI 0),(iI 0)] [(0,(t 38))]),ap 40 2 16 (t 30) (t 39),mv 3 (t 40)]
def r_g_12:List CI:=[mv 41 (t 6),bi .rem 42 (t 41) (i 4),bi .eql 43 (t 42) (i 0)]
def r_g_13:List CI:=[mv 44 (t 3),mv 45 (t 6),bi .quo 46 (t 45) (i 4),oo 47 (.build [(iI 0),(iI 0)] [(0,1,(i 1)),(1,1,(t 46))]),oo 48 (.buildSlice 1 2 [(iI 0),(iI 0)] [(0,(t 47))]),ap 49 2 16 (t 44) (t 48),mv 3 (t 49)]
def r_g_14:List CI:=[mv 50 (t 3),mv 51 (t 6),bi .quo 52 (t 51) (i 4),oo 53 (.un .neg (t 52)),bi .sub 54 (t 53) (i 1),oo 55 (.build [(iI 0),(iI 0)] [(0,1,(i 1)),(1,1,(t 54))]),oo 56 (.buildSlice 1 2 [(iI 0),(iI 0)] [(0,(t 55))]),ap 57 2 16 (t 50) (t 56),mv 3 (t 57)]
def r_g_15:List CI:=[mv 12 (t 5),bi .add 13 (t 12) (i 1),mv 5 (t 13)]
def c_g_16:CC:=(.seq (.seq (.ops r_g_5) (bs [0,3,4,5,11]) (.cond (t 11) .skip (.exit 0))) (bs [0,3,4,5]) (.seq (.block 2 (.seq (.ops r_g_6) (bs [0,3,4,5,6]) (.seq (.ops r_g_7) (bs [0,3,4,5,6,18]) (.cond (t 18) (.seq (.seq (.ops r_g_8) (bs [0,3,4,5,6,26]) (.cond (t 26) (.seq (.ops r_g_9) [] (.seq (.ops r_g_10) (bs [2]) .ret)) .skip)) (bs [0,3,4,5,6]) (.ops r_g_11)) (.seq (.ops r_g_12) (bs [0,3,4,5,6,43]) (.cond (t 43) (.ops r_g_13) (.ops r_g_14))))))) (bs [0,3,4,5]) (.ops r_g_15)))
def r_g_17:List CI:=[mv 58 (t 3),mv 2 (t 58)]
def c_g:CC:=(.seq (.ops r_g_1) (bs [0]) (.seq (.ops r_g_2) (bs [0,3]) (.seq (.ops r_g_3) (bs [0,3,4]) (.seq (.seq (.ops r_g_4) (bs [0,3,4,5]) (.block 0 (.loop (bs [0,3,4,5]) c_g_16))) (bs [3]) (.seq (.ops r_g_17) (bs [2]) .ret)))))
def f_g:za:=⟨59,[.tmp (bits 2)],c_g,none,none⟩
def r_9_1:List CI:=[mv 2 (.c (.slice none 0 0)),mv 3 (.c (.string ⟨#[]⟩)),mv 4 (i 0)]
def r_9_2:List CI:=[mv 10 (t 0),oo 11 (.blt .lenStr [(t 10)]),bi .gtr 12 (t 11) (i 80000)]
def r_9_3:List CI:=[mv 2 (.c (.slice none 0 0)),mv 3 (.c (.string ⟨#[]⟩)),mv 4 (i 3)]
def r_9_4:List CI:=[mv 14 (t 0),ca 15 n_2 [(t 14)],mv 13 (t 15),ex 16 13 0,ex 17 13 1,oo 5 (.alloc [(.slice none 0 0),(.slice none 0 0),(.slice none 0 0)]),st 3 5 (t 16),mv 6 (t 17)]
def r_9_5:List CI:=[mv 18 (t 6),bi .neq 19 (t 18) (i 0)]
def r_9_6:List CI:=[mv 21 (t 0),ca 22 n_7 [(t 21)],mv 20 (t 22),ex 23 20 0,ex 24 20 1,oo 7 (.alloc [(iI 0),(.slice none 0 0)]),st 2 7 (t 23),mv 8 (t 24)]
def r_9_7:List CI:=[mv 25 (t 8),bi .neq 26 (t 25) (i 0)]
def r_9_8:List CI:=[mv 2 (.c (.slice none 0 0)),mv 3 (.c (.string ⟨#[]⟩)),mv 4 (i 4)]
def r_9_9:List CI:=[mv 27 (t 0),mv 28 (t 0),oo 29 (.strIdx (t 28) (i 0)),ca 30 n_Z [(t 27),(t 29)],mv 9 (t 30)]
def r_9_10:List CI:=[mv 31 (t 9),nc 32 31,fa 33 0 32,fa 34 0 33,l 35 34,mv 36 (t 9),nc 37 36,fa 38 2 37,l 39 38,mv 2 (t 35),mv 3 (t 39),mv 4 (i 0)]
def c_9:CC:=(.seq (.ops r_9_1) (bs [0]) (.seq (.seq (.ops r_9_2) (bs [0,12]) (.cond (t 12) (.seq (.ops r_9_3) (bs [2,3,4]) .ret) .skip)) (bs [0]) (.seq (.seq (.ops r_9_4) (bs [0,6]) (.seq (.ops r_9_5) (bs [0,19]) (.cond (t 19) (.seq (.ops r_9_6) (bs [0,8]) (.seq (.ops r_9_7) (bs [0,26]) (.cond (t 26) (.seq (.ops r_9_8) (bs [2,3,4]) .ret) .skip))) .skip))) (bs [0]) (.seq (.ops r_9_9) (bs [9]) (.seq (.draw r_9_10) (bs [2,3,4]) .ret)))))
def f_9:za:=⟨40,[.tmp (bits 2),.tmp (bits 3),.tmp (bits 4)],c_9,none,none⟩
def r_bm_1:List CI:=[bx 1 (t 0),mv 2 ff]
def r_bm_2:List CI:=[fa 3 0 1,l 4 3]
def r_bm_3:List CI:=[bi .eql 6 (t 4) (i 2),mv 5 (t 6)]
def r_bm_4:List CI:=[fa 7 1 1,l 8 7,ca 9 n_bq [(t 8),(i 12)],mv 2 (t 9)]
def r_bm_5:List CI:=[bi .eql 11 (t 4) (i 3),mv 10 (t 11)]
def r_bm_6:List CI:=[fa 12 1 1,l 13 12,ca 14 n_bq [(t 13),(i 60)],mv 2 (t 14)]
def r_bm_7:List CI:=[fa 15 0 1,l 16 15,bi .eql 17 (t 16) (i 4),mv 18 (t 17),gu 18 true (fa 19 1 1),gu 18 true (l 20 19),gu 18 true (ca 21 n_bq [(t 20),(i 24)]),pk 22 (t 18) (t 21) ff,mv 2 (t 22)]
def c_bm:CC:=(.seq (.ops r_bm_1) (bs [1]) (.seq (.seq (.ops r_bm_2) (bs [1,4]) (.block 0 (.seq (.ops r_bm_3) (bs [1,4,5]) (.cond (t 5) (.seq (.ops r_bm_4) (bs [2]) .ret) (.seq (.ops r_bm_5) (bs [1,10]) (.cond (t 10) (.seq (.ops r_bm_6) (bs [2]) .ret) .skip)))))) (bs [1]) (.seq (.ops r_bm_7) (bs [2]) .ret)))
def f_bm:za:=⟨23,[.tmp (bits 2)],c_bm,none,none⟩
def r_l_1:List CI:=[mv 4 (.c (.slice none 0 0))]
def r_l_2:List CI:=[mv 5 (.c (.slice none 0 0))]
def r_l_3:List CI:=[mv 8 (t 0),le 9 (t 8),mv 10 (i 0)]
def r_l_4:List CI:=[bi .lss 11 (t 10) (t 9)]
def r_l_5:List CI:=[ia 12 2 8 (t 10),ln 13 2 12,oo 7 (.alloc [(iI 0),(iI 0)]),st 2 7 (t 13)]
def r_l_6:List CI:=[mv 14 (t 5),mv 15 (t 1),ln 16 2 7,oo 17 (.call (t 15) [(t 16)]),oo 18 (.buildSlice 1 2 [(iI 0),(iI 0)] [(0,(t 17))]),ap 19 2 16 (t 14) (t 18),mv 5 (t 19)]
def r_l_7:List CI:=[bi .add 20 (t 10) (i 1),mv 10 (t 20)]
def c_l_8:CC:=(.seq (.ops r_l_4) (bs [1,5,8,9,10,11]) (.seq (.cond (t 11) .skip (.exit 0)) (bs [1,5,8,9,10]) (.seq (.block 2 (.seq (.ops r_l_5) (bs [1,5,7,8,9,10]) (.ops r_l_6))) (bs [1,5,8,9,10]) (.ops r_l_7))))
def r_l_9:List CI:=[mv 21 (t 5),mv 4 (t 21)]
def c_l:CC:=(.seq (.ops r_l_1) (bs [0,1]) (.seq (.ops r_l_2) (bs [0,1,5]) (.seq (.seq (.ops r_l_3) (bs [1,5,8,9,10]) (.block 0 (.loop (bs [1,5,8,9,10]) c_l_8))) (bs [5]) (.seq (.ops r_l_9) (bs [4]) .ret))))
def f_l:za:=⟨22,[.tmp (bits 4)],c_l,none,none⟩
def r_br_1:List CI:=[bx 3 (t 0),oo 4 (.alloc [(iI 0),(iI 0)])]
def r_br_2:List CI:=[l 8 1,ln 9 2 3,oo 10 (.lookup (.leaves [0,1]) (.agg ⟨[(iI 0),(iI 0)]⟩) true (t 8) (t 9)),mv 7 (t 10),ex 11 7 0,ex 12 7 1,oo 5 (.alloc [(iI 0),(iI 0)]),st 2 5 (t 11),mv 6 (t 12)]
def r_br_3:List CI:=[mv 13 (t 6)]
def r_br_4:List CI:=[ln 14 2 5,st 2 3 (t 14)]
def r_br_5:List CI:=[l 15 2,ln 16 2 3,on (.mapUpdate (.leaves [0,1]) (t 15) (t 16) tt)]
def r_br_6:List CI:=[ln 17 2 3,st 2 4 (t 17)]
def c_br:CC:=(.seq (.ops r_br_1) (bs [1,2,3,4]) (.seq (.seq (.ops r_br_2) (bs [2,3,4,5,6]) (.seq (.ops r_br_3) (bs [2,3,4,5,13]) (.cond (t 13) (.ops r_br_4) .skip))) (bs [2,3,4]) (.seq (.ops r_br_5) (bs [3,4]) (.seq (.ops r_br_6) (bs [4]) .ret))))
def f_br:za:=⟨18,[.cell (some 2) (bits 4)],c_br,none,none⟩
def r_bv_1:List CI:=[mv 2 (.c (.string ⟨#[]⟩))]
def r_bv_2:List CI:=[mv 3 (t 0),mv 4 (t 0),ca 5 n_0 [(t 4)],ap 6 1 1 (t 3) (t 5),oo 7 (.b2s (t 6)),mv 2 (t 7)]
def c_bv:CC:=(.seq (.ops r_bv_1) (bs [0]) (.seq (.ops r_bv_2) (bs [2]) .ret))
def f_bv:za:=⟨8,[.tmp (bits 2)],c_bv,none,none⟩
def r_bj_1:List CI:=[mv 4 (.c (.slice none 0 0))]
def r_bj_2:List CI:=[mv 8 (t 0),oo 9 (.buildSlice 1 1 [(.int .u8 0)] [(0,(t 8))]),mv 10 (t 1),le 11 (t 10),ca 12 n_bg [(t 9),(t 11)],mv 5 (t 12)]
def r_bj_3:List CI:=[mv 13 (t 1),le 14 (t 13),mv 15 (i 0)]
def r_bj_4:List CI:=[bi .lss 16 (t 15) (t 14)]
def r_bj_5:List CI:=[ia 17 2 13 (t 15),ln 18 2 17,oo 7 (.alloc [(iI 0),(iI 0)]),st 2 7 (t 18)]
def r_bj_6:List CI:=[mv 19 (t 5),fa 20 0 7,l 21 20,ca 22 n_bg [(t 19),(t 21)],fa 23 1 7,l 24 23,lo 1 (ca 25 n_bg [(t 22),(t 24)]),lo 2 (mv 5 (t 25))]
def r_bj_7:List CI:=[bi .add 26 (t 15) (i 1),mv 15 (t 26)]
def c_bj_8:CC:=(.seq (.ops r_bj_4) (bs [5,13,14,15,16]) (.seq (.cond (t 16) .skip (.exit 0)) (bs [5,13,14,15]) (.seq (.block 2 (.seq (.ops r_bj_5) (bs [5,7,13,14,15]) (.draw r_bj_6))) (bs [5,13,14,15]) (.ops r_bj_7))))
def r_bj_9:List CI:=[mv 27 (t 5),mv 4 (t 27)]
def c_bj:CC:=(.seq (.ops r_bj_1) (bs [0,1]) (.seq (.ops r_bj_2) (bs [1,5]) (.seq (.seq (.ops r_bj_3) (bs [5,13,14,15]) (.block 0 (.loop (bs [5,13,14,15]) c_bj_8))) (bs [5]) (.seq (.ops r_bj_9) (bs [4]) .ret))))
def f_bj:za:=⟨28,[.tmp (bits 4)],c_bj,none,none⟩
def r_r_1:List CI:=[mv 2 ff]
def r_r_2:List CI:=[mv 3 (i 0)]
def r_r_3:List CI:=[mv 5 (t 3),mv 6 (t 0),le 7 (t 6),bi .lss 8 (t 5) (t 7)]
def r_r_4:List CI:=[mv 11 (t 0),mv 12 (t 3),ia 13 4 11 (t 12),fa 14 0 13,ln 15 2 14,ca 16 n_P [(t 15)],lo 1 (no 17 16),lo 1 (mv 18 (t 17)),lo 1 (gu 18 false (mv 19 (t 0))),lo 1 (gu 18 false (mv 20 (t 3))),lo 1 (gu 18 false (ia 21 4 19 (t 20))),lo 1 (gu 18 false (fa 22 2 21)),lo 1 (gu 18 false (ln 23 2 22)),lo 1 (gu 18 false (ca 24 n_P [(t 23)])),lo 2 (gu 18 false (no 25 24)),lo 2 (pk 26 (t 18) tt (t 25)),lo 2 (mv 27 (t 26)),lo 2 (gu 27 false (mv 28 (t 0))),lo 2 (gu 27 false (mv 29 (t 3))),lo 2 (gu 27 false (ia 30 4 28 (t 29))),lo 2 (gu 27 false (fa 31 0 30)),lo 2 (gu 27 false (fa 32 0 31)),lo 2 (gu 27 false (l 33 32)),lo 2 (gu 27 false (mv 34 (t 0))),lo 2 (gu 27 false (mv 35 (t 3))),lo 2 (gu 27 false (ia 36 4 34 (t 35))),lo 2 (gu 27 false (fa 37 2 36)),lo 2 (gu 27 false (fa 38 0 37)),lo 2 (gu 27 false (l 39 38)),lo 2 (gu 27 false (bi .neq 40 (t 33) (t 39))),lo 2 (pk 41 (t 27) tt (t 40))]
def r_r_5:List CI:=[mv 2 ff]
def r_r_6:List CI:=[mv 4 (i 0)]
def r_r_7:List CI:=[mv 42 (t 4),mv 43 (t 3),bi .lss 44 (t 42) (t 43)]
def r_r_8:List CI:=[mv 47 (t 0),mv 48 (t 4),ia 49 4 47 (t 48),fa 50 0 49,ln 51 2 50,mv 52 (t 0),mv 53 (t 3),ia 54 4 52 (t 53),fa 55 0 54,ln 56 2 55,oo 57 (.bin .eql (.leaves [0,1]) (t 51) (t 56))]
def r_r_9:List CI:=[mv 2 ff]
def r_r_10:List CI:=[mv 45 (t 4),bi .add 46 (t 45) (i 1),mv 4 (t 46)]
def c_r_11:CC:=(.seq (.seq (.ops r_r_7) (bs [0,3,4,44]) (.cond (t 44) .skip (.exit 4))) (bs [0,3,4]) (.seq (.block 6 (.seq (.draw r_r_8) (bs [0,3,4,57]) (.cond (t 57) (.seq (.ops r_r_9) (bs [2]) .ret) .skip))) (bs [0,3,4]) (.ops r_r_10)))
def r_r_12:List CI:=[mv 9 (t 3),bi .add 10 (t 9) (i 1),mv 3 (t 10)]
def c_r_13:CC:=(.seq (.seq (.ops r_r_3) (bs [0,3,8]) (.cond (t 8) .skip (.exit 0))) (bs [0,3]) (.seq (.block 2 (.seq (.seq (.draw r_r_4) (bs [0,3,41]) (.cond (t 41) (.seq (.ops r_r_5) (bs [2]) .ret) .skip)) (bs [0,3]) (.seq (.ops r_r_6) (bs [0,3,4]) (.block 4 (.loop (bs [0,3,4]) c_r_11))))) (bs [0,3]) (.ops r_r_12)))
def r_r_14:List CI:=[mv 2 tt]
def c_r:CC:=(.seq (.ops r_r_1) (bs [0]) (.seq (.seq (.ops r_r_2) (bs [0,3]) (.block 0 (.loop (bs [0,3]) c_r_13))) [] (.seq (.ops r_r_14) (bs [2]) .ret)))
def f_r:za:=⟨58,[.tmp (bits 2)],c_r,none,none⟩
def r_S_1:List CI:=[bx 2 (t 0),oo 4 (.alloc [(iI 0),(iI 0)])]
def r_S_2:List CI:=[mv 5 (i 0)]
def r_S_3:List CI:=[mv 6 (t 5),mv 7 (t 1),le 8 (t 7),bi .lss 9 (t 6) (t 8)]
def r_S_4:List CI:=[mv 12 (t 1),mv 13 (t 5),ia 14 4 12 (t 13),fa 15 0 14,ln 16 2 15,ln 17 2 2,oo 18 (.bin .eql (.leaves [0,1]) (t 16) (t 17))]
def r_S_5:List CI:=[mv 19 (t 1),mv 20 (t 5),ia 21 4 19 (t 20),fa 22 2 21,ln 23 2 22,st 2 4 (t 23)]
def r_S_6:List CI:=[mv 10 (t 5),bi .add 11 (t 10) (i 1),mv 5 (t 11)]
def c_S_7:CC:=(.seq (.seq (.ops r_S_3) (bs [1,2,4,5,9]) (.cond (t 9) .skip (.exit 0))) (bs [1,2,4,5]) (.seq (.block 2 (.seq (.draw r_S_4) (bs [1,2,4,5,18]) (.cond (t 18) (.seq (.ops r_S_5) (bs [4]) .ret) .skip))) (bs [1,2,4,5]) (.ops r_S_6)))
def r_S_8:List CI:=[ln 24 2 2,st 2 4 (t 24)]
def c_S:CC:=(.seq (.ops r_S_1) (bs [1,2,4]) (.seq (.seq (.ops r_S_2) (bs [1,2,4,5]) (.block 0 (.loop (bs [1,2,4,5]) c_S_7))) (bs [2,4]) (.seq (.ops r_S_8) (bs [4]) .ret)))
def f_S:za:=⟨25,[.cell (some 2) (bits 4)],c_S,none,none⟩
def r_K_1:List CI:=[mv 2 (.c (.string ⟨#[]⟩))]
def r_K_2:List CI:=[mv 3 (.c (.slice none 0 0))]
def r_K_3:List CI:=[mv 4 (i 0)]
def r_K_4:List CI:=[mv 5 (t 4),mv 6 (t 0),le 7 (t 6),bi .lss 8 (t 5) (t 7)]
def r_K_5:List CI:=[mv 11 (t 3),mv 12 (t 0),mv 13 (t 4),ia 14 1 12 (t 13),l 15 14,ca 16 n_V [(t 15)],ap 17 1 1 (t 11) (t 16),mv 3 (t 17)]
def r_K_6:List CI:=[mv 9 (t 4),bi .add 10 (t 9) (i 1),mv 4 (t 10)]
def c_K_7:CC:=(.seq (.seq (.ops r_K_4) (bs [0,3,4,8]) (.cond (t 8) .skip (.exit 0))) (bs [0,3,4]) (.seq (.block 2 (.ops r_K_5)) (bs [0,3,4]) (.ops r_K_6)))
def r_K_8:List CI:=[mv 18 (t 3),oo 19 (.b2s (t 18)),mv 2 (t 19)]
def c_K:CC:=(.seq (.ops r_K_1) (bs [0]) (.seq (.ops r_K_2) (bs [0,3]) (.seq (.seq (.ops r_K_3) (bs [0,3,4]) (.block 0 (.loop (bs [0,3,4]) c_K_7))) (bs [3]) (.seq (.ops r_K_8) (bs [2]) .ret))))
def f_K:za:=⟨20,[.tmp (bits 2)],c_K,none,none⟩
def r_bq_1:List CI:=[mv 4 ff]
def r_bq_2:List CI:=[mv 5 (t 0),bi .geq 6 (t 5) (i 0),mv 7 (t 6),gu 7 true (mv 8 (t 0)),gu 7 true (mv 9 (t 1)),gu 7 true (bi .lss 10 (t 8) (t 9)),pk 11 (t 7) (t 10) ff,mv 4 (t 11)]
def c_bq:CC:=(.seq (.ops r_bq_1) (bs [0,1]) (.seq (.ops r_bq_2) (bs [4]) .ret))
def f_bq:za:=⟨12,[.tmp (bits 4)],c_bq,none,none⟩
def r_6_1:List CI:=[mv 4 ff]
def r_6_2:List CI:=[mv 5 (t 0),mv 6 (t 1),ca 7 n_G [(t 5),(t 6)],bi .geq 8 (t 7) (i 0),mv 4 (t 8)]
def c_6:CC:=(.seq (.ops r_6_1) (bs [0,1]) (.seq (.ops r_6_2) (bs [4]) .ret))
def f_6:za:=⟨9,[.tmp (bits 4)],c_6,none,none⟩
def r_bb_1:List CI:=[mv 2 ff]
def r_bb_2:List CI:=[oo 6 (.makeMap),mv 3 (t 6)]
def r_bb_3:List CI:=[mv 7 (t 0),le 8 (t 7),mv 9 (i 0)]
def r_bb_4:List CI:=[bi .lss 10 (t 9) (t 8)]
def r_bb_5:List CI:=[ia 11 1 7 (t 9),l 12 11,mv 5 (t 12)]
def r_bb_6:List CI:=[mv 13 (t 3),mv 14 (t 5),oo 15 (.lookup .int (.bool false) false (t 13) (t 14))]
def r_bb_7:List CI:=[mv 2 ff]
def r_bb_8:List CI:=[mv 16 (t 3),mv 17 (t 5),on (.mapUpdate .int (t 16) (t 17) tt)]
def r_bb_9:List CI:=[bi .add 18 (t 9) (i 1),mv 9 (t 18)]
def c_bb_10:CC:=(.seq (.ops r_bb_4) (bs [3,7,8,9,10]) (.seq (.cond (t 10) .skip (.exit 0)) (bs [3,7,8,9]) (.seq (.block 2 (.seq (.ops r_bb_5) (bs [3,5,7,8,9]) (.seq (.seq (.ops r_bb_6) (bs [3,5,7,8,9,15]) (.cond (t 15) (.seq (.ops r_bb_7) (bs [2]) .ret) .skip)) (bs [3,5,7,8,9]) (.ops r_bb_8)))) (bs [3,7,8,9]) (.ops r_bb_9))))
def r_bb_11:List CI:=[mv 2 tt]
def c_bb:CC:=(.seq (.ops r_bb_1) (bs [0]) (.seq (.ops r_bb_2) (bs [0,3]) (.seq (.seq (.ops r_bb_3) (bs [3,7,8,9]) (.block 0 (.loop (bs [3,7,8,9]) c_bb_10))) [] (.seq (.ops r_bb_11) (bs [2]) .ret))))
def f_bb:za:=⟨19,[.tmp (bits 2)],c_bb,none,none⟩
def r_bs_1:List CI:=[bx 3 (t 1),mv 4 ff]
def r_bs_2:List CI:=[mv 5 (t 0),oo 6 (.makeFunc (.func n_bH) [] [(t 3)]),ca 7 n_3 [(t 5),(t 6)],no 8 7,mv 4 (t 8)]
def c_bs:CC:=(.seq (.ops r_bs_1) (bs [0,3]) (.seq (.ops r_bs_2) (bs [4]) .ret))
def f_bs:za:=⟨9,[.tmp (bits 4)],c_bs,none,none⟩
def r_bK_1:List CI:=[mv 2 ff]
def r_bK_2:List CI:=[mv 3 (t 0),ca 4 n_bq [(t 3),(i 24)],mv 2 (t 4)]
def c_bK:CC:=(.seq (.ops r_bK_1) (bs [0]) (.seq (.ops r_bK_2) (bs [2]) .ret))
def f_bK:za:=⟨5,[.tmp (bits 2)],c_bK,none,none⟩
def r_q_1:List CI:=[mv 4 (.c (.slice none 0 0))]
def r_q_2:List CI:=[mv 5 (.c (.slice none 0 0))]
def r_q_3:List CI:=[mv 8 (t 0),le 9 (t 8),mv 10 (i 0)]
def r_q_4:List CI:=[bi .lss 11 (t 10) (t 9)]
def r_q_5:List CI:=[ia 12 2 8 (t 10),ln 13 2 12,oo 7 (.alloc [(iI 0),(.slice none 0 0)]),st 2 7 (t 13)]
def r_q_6:List CI:=[mv 14 (t 5),mv 15 (t 1),ln 16 2 7,oo 17 (.call (t 15) [(t 16)]),oo 18 (.buildSlice 1 1 [(iI 0)] [(0,(t 17))]),ap 19 1 8 (t 14) (t 18),mv 5 (t 19)]
def r_q_7:List CI:=[bi .add 20 (t 10) (i 1),mv 10 (t 20)]
def c_q_8:CC:=(.seq (.ops r_q_4) (bs [1,5,8,9,10,11]) (.seq (.cond (t 11) .skip (.exit 0)) (bs [1,5,8,9,10]) (.seq (.block 2 (.seq (.ops r_q_5) (bs [1,5,7,8,9,10]) (.ops r_q_6))) (bs [1,5,8,9,10]) (.ops r_q_7))))
def r_q_9:List CI:=[mv 21 (t 5),mv 4 (t 21)]
def c_q:CC:=(.seq (.ops r_q_1) (bs [0,1]) (.seq (.ops r_q_2) (bs [0,1,5]) (.seq (.seq (.ops r_q_3) (bs [1,5,8,9,10]) (.block 0 (.loop (bs [1,5,8,9,10]) c_q_8))) (bs [5]) (.seq (.ops r_q_9) (bs [4]) .ret))))
def f_q:za:=⟨22,[.tmp (bits 4)],c_q,none,none⟩
def r_bI_1:List CI:=[bx 1 (t 0),mv 2 (i 0)]
def r_bI_2:List CI:=[fa 3 0 1,l 4 3,mv 2 (t 4)]
def c_bI:CC:=(.seq (.ops r_bI_1) (bs [1]) (.seq (.ops r_bI_2) (bs [2]) .ret))
def f_bI:za:=⟨5,[.tmp (bits 2)],c_bI,none,none⟩
def r_bJ_1:List CI:=[bx 1 (t 0),mv 2 ff]
def r_bJ_2:List CI:=[fa 3 0 1,l 4 3,ca 5 n_bq [(t 4),(i 60)],mv 6 (t 5),gu 6 true (fa 7 1 1),gu 6 true (l 8 7),gu 6 true (le 9 (t 8)),gu 6 true (bi .geq 10 (t 9) (i 1)),pk 11 (t 6) (t 10) ff,mv 12 (t 11),gu 12 true (fa 13 1 1),gu 12 true (l 14 13),gu 12 true (le 15 (t 14)),gu 12 true (bi .leq 16 (t 15) (i 12)),pk 17 (t 12) (t 16) ff,mv 18 (t 17),gu 18 true (fa 19 1 1),gu 18 true (l 20 19),gu 18 true (ca 21 n_bi [(t 20),(fc n_bt)]),pk 22 (t 18) (t 21) ff,mv 2 (t 22)]
def c_bJ:CC:=(.seq (.ops r_bJ_1) (bs [1]) (.seq (.ops r_bJ_2) (bs [2]) .ret))
def f_bJ:za:=⟨23,[.tmp (bits 2)],c_bJ,none,none⟩
def r_bi_1:List CI:=[bx 3 (t 1),mv 4 ff]
def r_bi_2:List CI:=[mv 5 (t 0),oo 6 (.makeFunc (.func n_bE) [] [(t 3)]),ca 7 n_O [(t 5),(t 6)],no 8 7,mv 4 (t 8)]
def c_bi:CC:=(.seq (.ops r_bi_1) (bs [0,3]) (.seq (.ops r_bi_2) (bs [4]) .ret))
def f_bi:za:=⟨9,[.tmp (bits 4)],c_bi,none,none⟩
def r_bt_1:List CI:=[bx 1 (t 0),mv 2 ff]
def r_bt_2:List CI:=[fa 3 0 1,l 4 3,le 5 (t 4),bi .leq 6 (t 5) (i 3),mv 7 (t 6),gu 7 true (fa 8 0 1),gu 7 true (l 9 8),gu 7 true (ca 10 n_be [(t 9),(fc n_by)]),pk 11 (t 7) (t 10) ff,mv 2 (t 11)]
def c_bt:CC:=(.seq (.ops r_bt_1) (bs [1]) (.seq (.ops r_bt_2) (bs [2]) .ret))
def f_bt:za:=⟨12,[.tmp (bits 2)],c_bt,none,none⟩
def r_bB_1:List CI:=[bx 3 (t 0),mv 4 ff]
def r_bB_2:List CI:=[fa 6 0 3,l 7 6,l 8 1,bi .gtr 9 (t 7) (t 8),mv 10 (t 9),gu 10 true (fa 11 0 3),gu 10 true (l 12 11),gu 10 true (bi .lss 13 (t 12) (i 40)),pk 14 (t 10) (t 13) ff,mv 5 (t 14)]
def r_bB_3:List CI:=[fa 15 0 3,l 16 15,st 1 1 (t 16)]
def r_bB_4:List CI:=[mv 17 (t 5),mv 18 (t 17),gu 18 true (fa 19 0 2),gu 18 true (l 20 19),gu 18 true (fa 21 1 3),gu 18 true (fa 22 0 21),gu 18 true (l 23 22),gu 18 true (ca 24 n_6 [(t 20),(t 23)]),pk 25 (t 18) (t 24) ff,mv 26 (t 25),gu 26 true (fa 27 1 3),gu 26 true (fa 28 1 27),gu 26 true (l 29 28),gu 26 true (ca 30 n_bq [(t 29),(i 60)]),pk 31 (t 26) (t 30) ff,mv 32 (t 31),gu 32 true (fa 33 1 3),gu 32 true (fa 34 2 33),gu 32 true (l 35 34),gu 32 true (ca 36 n_be [(t 35),(fc n_by)]),pk 37 (t 32) (t 36) ff,mv 4 (t 37)]
def c_bB:CC:=(.seq (.ops r_bB_1) (bs [1,2,3]) (.seq (.ops r_bB_2) (bs [1,2,3,5]) (.seq (.ops r_bB_3) (bs [2,3,5]) (.seq (.ops r_bB_4) (bs [4]) .ret))))
def f_bB:za:=⟨38,[.tmp (bits 4)],c_bB,none,none⟩
def r_be_1:List CI:=[bx 3 (t 1),mv 4 ff]
def r_be_2:List CI:=[mv 5 (t 0),oo 6 (.makeFunc (.func n_bC) [] [(t 3)]),ca 7 n_M [(t 5),(t 6)],no 8 7,mv 4 (t 8)]
def c_be:CC:=(.seq (.ops r_be_1) (bs [0,3]) (.seq (.ops r_be_2) (bs [4]) .ret))
def f_be:za:=⟨9,[.tmp (bits 4)],c_be,none,none⟩
def r_by_1:List CI:=[bx 1 (t 0),mv 2 ff]
def r_by_2:List CI:=[ln 3 2 1,ca 4 n_bm [(t 3)],mv 5 (t 4),gu 5 false (fa 6 0 1),gu 5 false (l 7 6),gu 5 false (bi .eql 8 (t 7) (i 1)),gu 5 false (mv 9 (t 8)),gu 9 true (fa 10 1 1),gu 9 true (l 11 10),gu 9 true (bi .geq 12 (t 11) (i (-1000000000))),gu 5 false (pk 13 (t 9) (t 12) ff),gu 5 false (mv 14 (t 13)),gu 14 true (fa 15 1 1),gu 14 true (l 16 15),gu 14 true (bi .leq 17 (t 16) (i 1000000000)),gu 5 false (pk 18 (t 14) (t 17) ff),pk 19 (t 5) tt (t 18),mv 2 (t 19)]
def c_by:CC:=(.seq (.ops r_by_1) (bs [1]) (.seq (.ops r_by_2) (bs [2]) .ret))
def f_by:za:=⟨20,[.tmp (bits 2)],c_by,none,none⟩
def r_ba_1:List CI:=[bx 3 (t 1),mv 4 ff]
def r_ba_2:List CI:=[mv 5 (t 0),oo 6 (.makeFunc (.func n_bz) [] [(t 3)]),ca 7 n_A [(t 5),(t 6)],no 8 7,mv 4 (t 8)]
def c_ba:CC:=(.seq (.ops r_ba_1) (bs [0,3]) (.seq (.ops r_ba_2) (bs [4]) .ret))
def f_ba:za:=⟨9,[.tmp (bits 4)],c_ba,none,none⟩
def r_bd_1:List CI:=[bx 3 (t 1),mv 4 ff]
def r_bd_2:List CI:=[mv 5 (t 0),oo 6 (.makeFunc (.func n_bA) [] [(t 3)]),ca 7 n_F [(t 5),(t 6)],no 8 7,mv 4 (t 8)]
def c_bd:CC:=(.seq (.ops r_bd_1) (bs [0,3]) (.seq (.ops r_bd_2) (bs [4]) .ret))
def f_bd:za:=⟨9,[.tmp (bits 4)],c_bd,none,none⟩
def r_bx_1:List CI:=[mv 0 (.c (.pointer none))]
def r_bx_2:List CI:=[oo 1 (.makeMap),oo 2 (.build [(.slice none 0 0),(.map none)] [(1,1,(t 1))]),oo 3 (.build [(.slice none 0 0),(.map none),(.slice none 0 0)] [(0,2,(t 2))]),bx 4 (t 3),mv 0 (t 4)]
def c_bx:CC:=(.seq (.ops r_bx_1) [] (.seq (.ops r_bx_2) (bs [0]) .ret))
def f_bx:za:=⟨5,[.tmp (bits 0)],c_bx,none,none⟩
def r_8_1:List CI:=[mv 4 (t 0),mv 5 (t 0),nc 6 5,fa 7 2 6,l 8 7,mv 9 (t 1),ca 10 n_bg [(t 8),(t 9)],nc 11 4,fa 12 2 11,st 1 12 (t 10)]
def c_8:CC:=(.ops r_8_1)
def f_8:za:=⟨13,[],c_8,none,none⟩
def r_bn_1:List CI:=[mv 4 (t 0),mv 5 (t 0),nc 6 5,fa 7 0 6,mv 8 (t 1),oo 9 (.build [(iI 0),(iI 0)] [(0,1,(i 4)),(1,1,(t 8))]),ca 10 n_U [(t 7),(t 9)],ca 11 n_8 [(t 4),(t 10)]]
def c_bn:CC:=(.ops r_bn_1)
def f_bn:za:=⟨12,[],c_bn,none,none⟩
def r_bl_1:List CI:=[mv 4 (t 0),mv 5 (t 0),nc 6 5,fa 7 0 6,mv 8 (t 1),oo 9 (.build [(iI 0),(iI 0)] [(0,1,(i 3)),(1,1,(t 8))]),ca 10 n_U [(t 7),(t 9)],ca 11 n_8 [(t 4),(t 10)]]
def c_bl:CC:=(.ops r_bl_1)
def f_bl:za:=⟨12,[],c_bl,none,none⟩
def r_I_1:List CI:=[mv 6 (t 0),mv 7 (t 1),le 8 (t 7),ca 9 n_8 [(t 6),(t 8)]]
def r_I_2:List CI:=[mv 10 (t 1),le 11 (t 10),mv 12 (i 0)]
def r_I_3:List CI:=[bi .lss 13 (t 12) (t 11)]
def r_I_4:List CI:=[ia 14 2 10 (t 12),ln 15 2 14,oo 5 (.alloc [(iI 0),(iI 0)]),st 2 5 (t 15)]
def r_I_5:List CI:=[fa 25 0 5,l 26 25,bi .neq 27 (t 26) (i 1),mv 24 (t 27)]
def r_I_6:List CI:=[mv 29 (t 0),nc 30 29,fa 31 0 30,ln 32 2 5,ca 33 n_U [(t 31),(t 32)],mv 28 (t 0),lo 1 (bi .mul 34 (i 2) (t 33)),lo 1 (bi .add 35 (t 34) (i 1)),lo 1 (ca 36 n_8 [(t 28),(t 35)])]
def r_I_7:List CI:=[fa 38 1 5,l 39 38,bi .geq 40 (t 39) (i 0),mv 37 (t 40)]
def r_I_8:List CI:=[mv 41 (t 0),fa 42 1 5,l 43 42,bi .mul 44 (i 4) (t 43),ca 45 n_8 [(t 41),(t 44)]]
def r_I_9:List CI:=[mv 16 (t 0),fa 17 1 5,l 18 17,oo 19 (.un .neg (t 18)),bi .sub 20 (t 19) (i 1),bi .mul 21 (i 4) (t 20),bi .add 22 (t 21) (i 2),ca 23 n_8 [(t 16),(t 22)]]
def r_I_10:List CI:=[bi .add 46 (t 12) (i 1),mv 12 (t 46)]
def c_I_11:CC:=(.seq (.ops r_I_3) (bs [0,10,11,12,13]) (.seq (.cond (t 13) .skip (.exit 0)) (bs [0,10,11,12]) (.seq (.block 2 (.seq (.ops r_I_4) (bs [0,5,10,11,12]) (.block 4 (.seq (.ops r_I_5) (bs [0,5,10,11,12,24]) (.cond (t 24) (.draw r_I_6) (.seq (.ops r_I_7) (bs [0,5,10,11,12,37]) (.cond (t 37) (.ops r_I_8) (.ops r_I_9)))))))) (bs [0,10,11,12]) (.ops r_I_10))))
def c_I:CC:=(.seq (.ops r_I_1) (bs [0,1]) (.seq (.ops r_I_2) (bs [0,10,11,12]) (.block 0 (.loop (bs [0,10,11,12]) c_I_11))))
def f_I:za:=⟨47,[],c_I,none,none⟩
def r_bo_1:List CI:=[mv 4 (.c (.string ⟨#[]⟩))]
def r_bo_2:List CI:=[mv 5 (t 1),mv 6 (t 0),nc 7 6,fa 8 0 7,fa 9 0 8,l 10 9,ca 11 n_bj [(t 5),(t 10)],mv 12 (t 0),nc 13 12,fa 14 2 13,l 15 14,lo 1 (ap 16 1 1 (t 11) (t 15)),lo 2 (ca 17 n_bv [(t 16)]),lo 3 (mv 4 (t 17))]
def c_bo:CC:=(.seq (.ops r_bo_1) (bs [0,1]) (.seq (.draw r_bo_2) (bs [4]) .ret))
def f_bo:za:=⟨18,[.tmp (bits 4)],c_bo,none,none⟩
def r_4_1:List CI:=[mv 6 ff]
def r_4_2:List CI:=[mv 7 (t 0),mv 8 (t 1),bi .geq 9 (t 7) (t 8),mv 10 (t 9),gu 10 true (mv 11 (t 0)),gu 10 true (mv 12 (t 2)),gu 10 true (bi .leq 13 (t 11) (t 12)),pk 14 (t 10) (t 13) ff,mv 6 (t 14)]
def c_4:CC:=(.seq (.ops r_4_1) (bs [0,1,2]) (.seq (.ops r_4_2) (bs [6]) .ret))
def f_4:za:=⟨15,[.tmp (bits 6)],c_4,none,none⟩
def r_W_1:List CI:=[mv 4 ff]
def r_W_2:List CI:=[mv 5 (i 0)]
def r_W_3:List CI:=[mv 6 (t 5),mv 7 (t 0),le 8 (t 7),bi .lss 9 (t 6) (t 8)]
def r_W_4:List CI:=[mv 12 (t 0),mv 13 (t 5),ia 14 1 12 (t 13),l 15 14,mv 16 (t 1),bi .eql 17 (t 15) (t 16)]
def r_W_5:List CI:=[mv 4 tt]
def r_W_6:List CI:=[mv 10 (t 5),bi .add 11 (t 10) (i 1),mv 5 (t 11)]
def c_W_7:CC:=(.seq (.seq (.ops r_W_3) (bs [0,1,5,9]) (.cond (t 9) .skip (.exit 0))) (bs [0,1,5]) (.seq (.block 2 (.seq (.ops r_W_4) (bs [0,1,5,17]) (.cond (t 17) (.seq (.ops r_W_5) (bs [4]) .ret) .skip))) (bs [0,1,5]) (.ops r_W_6)))
def r_W_8:List CI:=[mv 4 ff]
def c_W:CC:=(.seq (.ops r_W_1) (bs [0,1]) (.seq (.seq (.ops r_W_2) (bs [0,1,5]) (.block 0 (.loop (bs [0,1,5]) c_W_7))) [] (.seq (.ops r_W_8) (bs [4]) .ret)))
def f_W:za:=⟨18,[.tmp (bits 4)],c_W,none,none⟩
def r_J_1:List CI:=[bx 1 (t 0),mv 2 ff]
def r_J_2:List CI:=[fa 4 0 1,l 5 4,ca 6 n_4 [(t 5),(i 0),(i 59)],no 7 6,mv 8 (t 7),gu 8 false (fa 9 1 1),gu 8 false (l 10 9),gu 8 false (le 11 (t 10)),gu 8 false (ca 12 n_4 [(t 11),(i 1),(i 12)]),gu 8 false (no 13 12),pk 14 (t 8) tt (t 13)]
def r_J_3:List CI:=[mv 2 ff]
def r_J_4:List CI:=[mv 3 (i 0)]
def r_J_5:List CI:=[mv 15 (t 3),fa 16 1 1,l 17 16,le 18 (t 17),bi .lss 19 (t 15) (t 18)]
def r_J_6:List CI:=[fa 22 1 1,l 23 22,mv 24 (t 3),ia 25 1 23 (t 24),fa 26 0 25,l 27 26,le 28 (t 27),bi .gtr 29 (t 28) (i 3),mv 30 (t 29),gu 30 false (fa 31 1 1),gu 30 false (l 32 31),gu 30 false (mv 33 (t 3)),gu 30 false (ia 34 1 32 (t 33)),gu 30 false (fa 35 0 34),gu 30 false (l 36 35),gu 30 false (ca 37 n_T [(t 36)]),gu 30 false (no 38 37),pk 39 (t 30) tt (t 38)]
def r_J_7:List CI:=[mv 2 ff]
def r_J_8:List CI:=[mv 20 (t 3),bi .add 21 (t 20) (i 1),mv 3 (t 21)]
def c_J_9:CC:=(.seq (.seq (.ops r_J_5) (bs [1,3,19]) (.cond (t 19) .skip (.exit 0))) (bs [1,3]) (.seq (.block 2 (.seq (.ops r_J_6) (bs [1,3,39]) (.cond (t 39) (.seq (.ops r_J_7) (bs [2]) .ret) .skip))) (bs [1,3]) (.ops r_J_8)))
def r_J_10:List CI:=[mv 2 tt]
def c_J:CC:=(.seq (.ops r_J_1) (bs [1]) (.seq (.seq (.ops r_J_2) (bs [1,14]) (.cond (t 14) (.seq (.ops r_J_3) (bs [2]) .ret) .skip)) (bs [1]) (.seq (.seq (.ops r_J_4) (bs [1,3]) (.block 0 (.loop (bs [1,3]) c_J_9))) [] (.seq (.ops r_J_10) (bs [2]) .ret))))
def f_J:za:=⟨40,[.tmp (bits 2)],c_J,none,none⟩
def r_T_1:List CI:=[mv 2 ff]
def r_T_2:List CI:=[mv 3 (i 0)]
def r_T_3:List CI:=[mv 4 (t 3),mv 5 (t 0),le 6 (t 5),bi .lss 7 (t 4) (t 6)]
def r_T_4:List CI:=[mv 10 (t 0),mv 11 (t 3),ia 12 2 10 (t 11),ln 13 2 12,ca 14 n_P [(t 13)],no 15 14,mv 16 (t 15),gu 16 true (mv 17 (t 0)),gu 16 true (mv 18 (t 3)),gu 16 true (ia 19 2 17 (t 18)),gu 16 true (fa 20 0 19),gu 16 true (l 21 20),gu 16 true (bi .neq 22 (t 21) (i 1)),gu 16 true (mv 23 (t 22)),gu 23 false (mv 24 (t 0)),gu 23 false (mv 25 (t 3)),gu 23 false (ia 26 2 24 (t 25)),gu 23 false (fa 27 1 26),gu 23 false (l 28 27),gu 23 false (ca 29 n_4 [(t 28),(i (-1000000000)),(i 1000000000)]),gu 23 false (no 30 29),gu 16 true (pk 31 (t 23) tt (t 30)),pk 32 (t 16) (t 31) ff]
def r_T_5:List CI:=[mv 2 ff]
def r_T_6:List CI:=[mv 8 (t 3),bi .add 9 (t 8) (i 1),mv 3 (t 9)]
def c_T_7:CC:=(.seq (.seq (.ops r_T_3) (bs [0,3,7]) (.cond (t 7) .skip (.exit 0))) (bs [0,3]) (.seq (.block 2 (.seq (.ops r_T_4) (bs [0,3,32]) (.cond (t 32) (.seq (.ops r_T_5) (bs [2]) .ret) .skip))) (bs [0,3]) (.ops r_T_6)))
def r_T_8:List CI:=[mv 2 tt]
def c_T:CC:=(.seq (.ops r_T_1) (bs [0]) (.seq (.seq (.ops r_T_2) (bs [0,3]) (.block 0 (.loop (bs [0,3]) c_T_7))) [] (.seq (.ops r_T_8) (bs [2]) .ret)))
def f_T:za:=⟨33,[.tmp (bits 2)],c_T,none,none⟩
def r_R_1:List CI:=[mv 4 (t 0),mv 5 (t 0),nc 6 5,fa 7 1 6,l 8 7,mv 9 (t 1),oo 10 (.buildSlice 1 1 [(iI 0)] [(0,(t 9))]),ap 11 1 8 (t 8) (t 10),nc 12 4,fa 13 1 12,st 1 13 (t 11)]
def c_R:CC:=(.ops r_R_1)
def f_R:za:=⟨14,[],c_R,none,none⟩
def r_n_1:List CI:=[bx 3 (t 1),mv 4 (i 0)]
def r_n_2:List CI:=[mv 5 (i 0)]
def r_n_3:List CI:=[mv 6 (t 5),mv 7 (t 0),nc 8 7,fa 9 0 8,l 10 9,le 11 (t 10),bi .lss 12 (t 6) (t 11)]
def r_n_4:List CI:=[mv 15 (t 0),nc 16 15,fa 17 0 16,l 18 17,mv 19 (t 5),ia 20 2 18 (t 19),ln 21 2 20,ln 22 2 3,oo 23 (.bin .eql (.leaves [0,1]) (t 21) (t 22))]
def r_n_5:List CI:=[mv 24 (t 5),mv 4 (t 24)]
def r_n_6:List CI:=[mv 13 (t 5),bi .add 14 (t 13) (i 1),mv 5 (t 14)]
def c_n_7:CC:=(.seq (.seq (.ops r_n_3) (bs [0,3,5,12]) (.cond (t 12) .skip (.exit 0))) (bs [0,3,5]) (.seq (.block 2 (.seq (.draw r_n_4) (bs [0,3,5,23]) (.cond (t 23) (.seq (.ops r_n_5) (bs [4]) .ret) .skip))) (bs [0,3,5]) (.ops r_n_6)))
def r_n_8:List CI:=[mv 26 (t 0),nc 27 26,fa 28 0 27,l 29 28,ln 30 2 3,oo 31 (.buildSlice 1 2 [(iI 0),(iI 0)] [(0,(t 30))]),ap 32 2 16 (t 29) (t 31),mv 25 (t 0),lo 1 (nc 33 25),lo 1 (fa 34 0 33),lo 1 (st 1 34 (t 32))]
def r_n_9:List CI:=[mv 35 (t 0),nc 36 35,fa 37 0 36,l 38 37,le 39 (t 38),bi .sub 40 (t 39) (i 1),mv 4 (t 40)]
def c_n:CC:=(.seq (.ops r_n_1) (bs [0,3]) (.seq (.seq (.ops r_n_2) (bs [0,3,5]) (.block 0 (.loop (bs [0,3,5]) c_n_7))) (bs [0,3]) (.seq (.draw r_n_8) (bs [0]) (.seq (.ops r_n_9) (bs [4]) .ret))))
def f_n:za:=⟨41,[.tmp (bits 4)],c_n,none,none⟩
def r_bh_1:List CI:=[oo 2 (.alloc [(iI 0),(iI 0)])]
def r_bh_2:List CI:=[mv 3 (t 0),oo 4 (.build [(iI 0),(iI 0)] [(0,1,(i 4)),(1,1,(t 3))]),st 2 2 (t 4)]
def c_bh:CC:=(.seq (.ops r_bh_1) (bs [0,2]) (.seq (.ops r_bh_2) (bs [2]) .ret))
def f_bh:za:=⟨5,[.cell (some 2) (bits 2)],c_bh,none,none⟩
def r_bc_1:List CI:=[oo 2 (.alloc [(iI 0),(iI 0)])]
def r_bc_2:List CI:=[mv 3 (t 0),oo 4 (.build [(iI 0),(iI 0)] [(0,1,(i 3)),(1,1,(t 3))]),st 2 2 (t 4)]
def c_bc:CC:=(.seq (.ops r_bc_1) (bs [0,2]) (.seq (.ops r_bc_2) (bs [2]) .ret))
def f_bc:za:=⟨5,[.cell (some 2) (bits 2)],c_bc,none,none⟩
def r_m_1:List CI:=[mv 6 (t 0),mv 7 (t 1),le 8 (t 7),ca 9 n_R [(t 6),(t 8)]]
def r_m_2:List CI:=[mv 4 (i 0)]
def r_m_3:List CI:=[mv 10 (t 4),mv 11 (t 1),le 12 (t 11),bi .lss 13 (t 10) (t 12)]
def r_m_4:List CI:=[mv 16 (t 1),mv 17 (t 4),ia 18 2 16 (t 17),ln 19 2 18,oo 5 (.alloc [(iI 0),(iI 0)]),st 2 5 (t 19)]
def r_m_5:List CI:=[fa 20 0 5,l 21 20,bi .neq 22 (t 21) (i 1)]
def r_m_6:List CI:=[mv 23 (t 0),mv 24 (t 0),ln 25 2 5,ca 26 n_n [(t 24),(t 25)],bi .mul 27 (i 2) (t 26),bi .add 28 (t 27) (i 1),ca 29 n_R [(t 23),(t 28)]]
def r_m_7:List CI:=[fa 30 1 5,l 31 30,bi .geq 32 (t 31) (i 0)]
def r_m_8:List CI:=[mv 33 (t 0),fa 34 1 5,l 35 34,bi .mul 36 (i 4) (t 35),ca 37 n_R [(t 33),(t 36)]]
def r_m_9:List CI:=[mv 38 (t 0),fa 39 1 5,l 40 39,oo 41 (.un .neg (t 40)),bi .sub 42 (t 41) (i 1),bi .mul 43 (i 4) (t 42),bi .add 44 (t 43) (i 2),ca 45 n_R [(t 38),(t 44)]]
def r_m_10:List CI:=[mv 14 (t 4),bi .add 15 (t 14) (i 1),mv 4 (t 15)]
def c_m_11:CC:=(.seq (.seq (.ops r_m_3) (bs [0,1,4,13]) (.cond (t 13) .skip (.exit 0))) (bs [0,1,4]) (.seq (.block 2 (.seq (.ops r_m_4) (bs [0,1,4,5]) (.seq (.ops r_m_5) (bs [0,1,4,5,22]) (.cond (t 22) (.ops r_m_6) (.seq (.ops r_m_7) (bs [0,1,4,5,32]) (.cond (t 32) (.ops r_m_8) (.ops r_m_9))))))) (bs [0,1,4]) (.ops r_m_10)))
def c_m:CC:=(.seq (.ops r_m_1) (bs [0,1]) (.seq (.ops r_m_2) (bs [0,1,4]) (.block 0 (.loop (bs [0,1,4]) c_m_11))))
def f_m:za:=⟨46,[],c_m,none,none⟩
def r_s_1:List CI:=[mv 4 (.c (.string ⟨#[]⟩))]
def r_s_2:List CI:=[mv 8 (t 0),nc 9 8,fa 10 0 9,l 11 10,le 12 (t 11),oo 13 (.buildSlice 1 1 [(iI 0)] [(0,(t 12))]),mv 5 (t 13)]
def r_s_3:List CI:=[mv 6 (i 0)]
def r_s_4:List CI:=[mv 14 (t 6),mv 15 (t 0),nc 16 15,fa 17 0 16,l 18 17,le 19 (t 18),bi .lss 20 (t 14) (t 19)]
def r_s_5:List CI:=[mv 23 (t 5),mv 24 (t 0),nc 25 24,fa 26 0 25,l 27 26,mv 28 (t 6),ia 29 2 27 (t 28),fa 30 0 29,l 31 30,mv 32 (t 0),nc 33 32,fa 34 0 33,l 35 34,mv 36 (t 6),ia 37 2 35 (t 36),fa 38 1 37,l 39 38,oo 40 (.buildSlice 2 1 [(iI 0)] [(0,(t 31)),(1,(t 39))]),ap 41 1 8 (t 23) (t 40),lo 1 (mv 5 (t 41))]
def r_s_6:List CI:=[mv 21 (t 6),bi .add 22 (t 21) (i 1),mv 6 (t 22)]
def c_s_7:CC:=(.seq (.seq (.ops r_s_4) (bs [0,1,5,6,20]) (.cond (t 20) .skip (.exit 0))) (bs [0,1,5,6]) (.seq (.block 2 (.draw r_s_5)) (bs [0,1,5,6]) (.ops r_s_6)))
def r_s_8:List CI:=[mv 45 (t 5),ca 46 n_K [(t 45)],mv 48 (t 0),nc 49 48,fa 50 1 49,l 51 50,lo 1 (ca 52 n_K [(t 51)]),mv 42 (t 1),oo 43 (.buildSlice 1 1 [(.int .u8 0)] [(0,(t 42))]),oo 44 (.b2s (t 43)),lo 1 (bi .add 47 (t 44) (t 46)),lo 2 (bi .add 53 (t 47) (t 52)),lo 2 (mv 7 (t 53))]
def r_s_9:List CI:=[mv 54 (t 7),mv 55 (t 7),ca 56 n_p [(t 55)],bi .add 57 (t 54) (t 56),mv 4 (t 57)]
def c_s:CC:=(.seq (.ops r_s_1) (bs [0,1]) (.seq (.ops r_s_2) (bs [0,1,5]) (.seq (.seq (.ops r_s_3) (bs [0,1,5,6]) (.block 0 (.loop (bs [0,1,5,6]) c_s_7))) (bs [0,1,5]) (.seq (.draw r_s_8) (bs [7]) (.seq (.ops r_s_9) (bs [4]) .ret)))))
def f_s:za:=⟨58,[.tmp (bits 4)],c_s,none,none⟩
def r_bD_1:List CI:=[oo 2 (.recov),mv 1 (t 2)]
def r_bD_2:List CI:=[mv 3 (t 1),oo 4 (.bin .neq (.iface true) (t 3) (.c .nilIface))]
def r_bD_3:List CI:=[st 1 0 ff]
def c_bD:CC:=(.seq (.ops r_bD_1) (bs [0,1]) (.seq (.ops r_bD_2) (bs [0,4]) (.cond (t 4) (.ops r_bD_3) .skip)))
def f_bD:za:=⟨5,[],c_bD,none,none⟩
def r_0_1:List CI:=[mv 2 (.c (.slice none 0 0))]
def r_0_2:List CI:=[mv 3 (.c (.int .u16 65535))]
def r_0_3:List CI:=[mv 8 (t 0),le 9 (t 8),mv 10 (i 0)]
def r_0_4:List CI:=[bi .lss 11 (t 10) (t 9)]
def r_0_5:List CI:=[ia 12 1 8 (t 10),l 13 12,mv 5 (t 13)]
def r_0_6:List CI:=[mv 14 (i 0)]
def r_0_7:List CI:=[bi .lss 15 (t 14) (i 8)]
def r_0_8:List CI:=[mv 16 (t 14),mv 6 (t 16)]
def r_0_9:List CI:=[mv 17 (t 3),bi .shr 18 (t 17) (.c (.int .u64 15)),mv 19 (t 5),mv 20 (t 6),bi .sub 21 (i 7) (t 20),bi .shr 22 (t 19) (t 21),bi .and 23 (t 22) (.c (.int .u8 1)),oo 24 (.conv .u16 (t 23)),bi .neq 25 (t 18) (t 24),mv 7 (t 25)]
def r_0_10:List CI:=[mv 26 (t 3),bi .shl 27 (t 26) (.c (.int .u64 1)),mv 3 (t 27)]
def r_0_11:List CI:=[mv 28 (t 7)]
def r_0_12:List CI:=[mv 29 (t 3),bi .xor 30 (t 29) (.c (.int .u16 4129)),mv 3 (t 30)]
def r_0_13:List CI:=[bi .add 31 (t 14) (i 1),mv 14 (t 31)]
def c_0_14:CC:=(.seq (.ops r_0_7) (bs [3,5,8,9,10,14,15]) (.seq (.cond (t 15) .skip (.exit 4)) (bs [3,5,8,9,10,14]) (.seq (.block 6 (.seq (.ops r_0_8) (bs [3,5,6,8,9,10,14]) (.seq (.ops r_0_9) (bs [3,5,7,8,9,10,14]) (.seq (.ops r_0_10) (bs [3,5,7,8,9,10,14]) (.seq (.ops r_0_11) (bs [3,5,8,9,10,14,28]) (.cond (t 28) (.ops r_0_12) .skip)))))) (bs [3,5,8,9,10,14]) (.ops r_0_13))))
def r_0_15:List CI:=[bi .add 32 (t 10) (i 1),mv 10 (t 32)]
def c_0_16:CC:=(.seq (.ops r_0_4) (bs [3,8,9,10,11]) (.seq (.cond (t 11) .skip (.exit 0)) (bs [3,8,9,10]) (.seq (.block 2 (.seq (.ops r_0_5) (bs [3,5,8,9,10]) (.seq (.ops r_0_6) (bs [3,5,8,9,10,14]) (.block 4 (.loop (bs [3,5,8,9,10,14]) c_0_14))))) (bs [3,8,9,10]) (.ops r_0_15))))
def r_0_17:List CI:=[mv 33 (t 3),bi .shr 34 (t 33) (.c (.int .u64 8)),oo 35 (.conv .u8 (t 34)),mv 36 (t 3),oo 37 (.conv .u8 (t 36)),oo 38 (.buildSlice 2 1 [(.int .u8 0)] [(0,(t 35)),(1,(t 37))]),mv 2 (t 38)]
def c_0:CC:=(.seq (.ops r_0_1) (bs [0]) (.seq (.ops r_0_2) (bs [0,3]) (.seq (.seq (.ops r_0_3) (bs [3,8,9,10]) (.block 0 (.loop (bs [3,8,9,10]) c_0_16))) (bs [3]) (.seq (.ops r_0_17) (bs [2]) .ret))))
def f_0:za:=⟨39,[.tmp (bits 2)],c_0,none,none⟩
def r_X_1:List CI:=[mv 2 (i 0)]
def r_X_2:List CI:=[mv 4 (t 0),ca 5 n_v [(t 4)],mv 3 (t 5)]
def r_X_3:List CI:=[mv 6 (t 3),mv 7 (t 0),nc 8 7,fa 9 2 8,l 10 9,oo 11 (.blt .lenStr [(t 10)]),bi .gtr 12 (t 6) (t 11)]
def r_X_4:List CI:=[oo 13 (.build [] []),oo 14 (.mkI 192 (t 13)),on (.panic (t 14))]
def r_X_5:List CI:=[mv 15 (t 3),mv 2 (t 15)]
def c_X:CC:=(.seq (.ops r_X_1) (bs [0]) (.seq (.ops r_X_2) (bs [0,3]) (.seq (.seq (.ops r_X_3) (bs [3,12]) (.cond (t 12) (.ops r_X_4) .skip)) (bs [3]) (.seq (.ops r_X_5) (bs [2]) .ret))))
def f_X:za:=⟨16,[.tmp (bits 2)],c_X,none,none⟩
def r_v_1:List CI:=[mv 2 (i 0)]
def r_v_2:List CI:=[mv 3 (.c (.int .u64 0))]
def r_v_3:List CI:=[mv 4 (i 0)]
def r_v_4:List CI:=[mv 6 (t 4),bi .lss 7 (t 6) (i 35)]
def r_v_5:List CI:=[mv 10 (t 0),nc 11 10,fa 12 2 11,l 13 12,bi .eql 14 (t 13) (.c (.string ⟨#[]⟩))]
def r_v_6:List CI:=[oo 15 (.build [] []),oo 16 (.mkI 192 (t 15)),on (.panic (t 16))]
def r_v_7:List CI:=[mv 17 (t 0),nc 18 17,fa 19 2 18,l 20 19,oo 21 (.strIdx (t 20) (i 0)),mv 5 (t 21)]
def r_v_8:List CI:=[mv 22 (t 0),mv 23 (t 0),nc 24 23,fa 25 2 24,l 26 25,oo 27 (.strSlice (t 26) (some (i 1)) none),nc 28 22,fa 29 2 28,st 1 29 (t 27)]
def r_v_9:List CI:=[mv 30 (t 3),mv 31 (t 5),bi .and 32 (t 31) (.c (.int .u8 127)),oo 33 (.conv .u64 (t 32)),mv 34 (t 4),bi .shl 35 (t 33) (t 34),bi .or 36 (t 30) (t 35),mv 3 (t 36)]
def r_v_10:List CI:=[mv 37 (t 5),bi .lss 38 (t 37) (.c (.int .u8 128))]
def r_v_11:List CI:=[mv 39 (t 3),oo 40 (.conv .i64 (t 39)),mv 2 (t 40)]
def r_v_12:List CI:=[mv 8 (t 4),bi .add 9 (t 8) (i 7),mv 4 (t 9)]
def c_v_13:CC:=(.seq (.seq (.ops r_v_4) (bs [0,2,3,4,7]) (.cond (t 7) .skip (.exit 0))) (bs [0,2,3,4]) (.seq (.block 2 (.seq (.seq (.ops r_v_5) (bs [0,2,3,4,14]) (.cond (t 14) (.ops r_v_6) .skip)) (bs [0,2,3,4]) (.seq (.ops r_v_7) (bs [0,2,3,4,5]) (.seq (.ops r_v_8) (bs [0,2,3,4,5]) (.seq (.ops r_v_9) (bs [0,2,3,4,5]) (.seq (.ops r_v_10) (bs [0,2,3,4,38]) (.cond (t 38) (.seq (.ops r_v_11) (bs [2]) .ret) .skip))))))) (bs [0,2,3,4]) (.ops r_v_12)))
def r_v_14:List CI:=[oo 41 (.build [] []),oo 42 (.mkI 192 (t 41)),on (.panic (t 42))]
def c_v:CC:=(.seq (.ops r_v_1) (bs [0,2]) (.seq (.ops r_v_2) (bs [0,2,3]) (.seq (.seq (.ops r_v_3) (bs [0,2,3,4]) (.block 0 (.loop (bs [0,2,3,4]) c_v_13))) (bs [2]) (.ops r_v_14))))
def f_v:za:=⟨43,[.tmp (bits 2)],c_v,none,none⟩
def r_w_1:List CI:=[mv 2 (i 0)]
def r_w_2:List CI:=[mv 4 (t 0),ca 5 n_e [(t 4)],mv 3 (t 5)]
def r_w_3:List CI:=[mv 6 (t 3),mv 7 (t 0),nc 8 7,fa 9 0 8,l 10 9,oo 11 (.blt .lenStr [(t 10)]),mv 12 (t 0),nc 13 12,fa 14 1 13,l 15 14,bi .sub 16 (t 11) (t 15),bi .gtr 17 (t 6) (t 16)]
def r_w_4:List CI:=[mv 18 (t 0),nc 19 18,fa 20 3 19,st 1 20 tt]
def r_w_5:List CI:=[mv 2 (i 0)]
def r_w_6:List CI:=[mv 21 (t 3),mv 2 (t 21)]
def c_w:CC:=(.seq (.ops r_w_1) (bs [0]) (.seq (.ops r_w_2) (bs [0,3]) (.seq (.seq (.draw r_w_3) (bs [0,3,17]) (.cond (t 17) (.seq (.ops r_w_4) [] (.seq (.ops r_w_5) (bs [2]) .ret)) .skip)) (bs [3]) (.seq (.ops r_w_6) (bs [2]) .ret))))
def f_w:za:=⟨22,[.tmp (bits 2)],c_w,none,none⟩
def r_e_1:List CI:=[mv 2 (i 0)]
def r_e_2:List CI:=[mv 3 (i 0)]
def r_e_3:List CI:=[mv 4 (i 1)]
def r_e_4:List CI:=[mv 5 (i 0)]
def r_e_5:List CI:=[mv 7 (t 5),bi .lss 8 (t 7) (i 5)]
def r_e_6:List CI:=[mv 11 (t 0),nc 12 11,fa 13 1 12,l 14 13,mv 15 (t 0),nc 16 15,fa 17 0 16,l 18 17,oo 19 (.blt .lenStr [(t 18)]),bi .geq 20 (t 14) (t 19)]
def r_e_7:List CI:=[mv 21 (t 0),nc 22 21,fa 23 3 22,st 1 23 tt]
def r_e_8:List CI:=[mv 2 (i 0)]
def r_e_9:List CI:=[mv 24 (t 0),nc 25 24,fa 26 0 25,l 27 26,mv 28 (t 0),nc 29 28,fa 30 1 29,l 31 30,oo 32 (.strIdx (t 27) (t 31)),oo 33 (.conv .i64 (t 32)),mv 6 (t 33)]
def r_e_10:List CI:=[mv 34 (t 0),nc 35 34,fa 36 1 35,l 37 36,bi .add 38 (t 37) (i 1),nc 39 34,fa 40 1 39,st 1 40 (t 38)]
def r_e_11:List CI:=[mv 41 (t 3),mv 42 (t 6),bi .rem 43 (t 42) (i 128),mv 44 (t 4),bi .mul 45 (t 43) (t 44),bi .add 46 (t 41) (t 45),mv 3 (t 46)]
def r_e_12:List CI:=[mv 47 (t 4),bi .mul 48 (t 47) (i 128),mv 4 (t 48)]
def r_e_13:List CI:=[mv 49 (t 6),bi .lss 50 (t 49) (i 128)]
def r_e_14:List CI:=[mv 51 (t 3),mv 2 (t 51)]
def r_e_15:List CI:=[mv 9 (t 5),bi .add 10 (t 9) (i 1),mv 5 (t 10)]
def c_e_16:CC:=(.seq (.seq (.ops r_e_5) (bs [0,3,4,5,8]) (.cond (t 8) .skip (.exit 0))) (bs [0,3,4,5]) (.seq (.block 2 (.seq (.seq (.draw r_e_6) (bs [0,3,4,5,20]) (.cond (t 20) (.seq (.ops r_e_7) [] (.seq (.ops r_e_8) (bs [2]) .ret)) .skip)) (bs [0,3,4,5]) (.seq (.draw r_e_9) (bs [0,3,4,5,6]) (.seq (.ops r_e_10) (bs [0,3,4,5,6]) (.seq (.ops r_e_11) (bs [0,3,4,5,6]) (.seq (.ops r_e_12) (bs [0,3,4,5,6]) (.seq (.ops r_e_13) (bs [0,3,4,5,50]) (.cond (t 50) (.seq (.ops r_e_14) (bs [2]) .ret) .skip)))))))) (bs [0,3,4,5]) (.ops r_e_15)))
def r_e_17:List CI:=[mv 52 (t 0),nc 53 52,fa 54 3 53,st 1 54 tt]
def r_e_18:List CI:=[mv 2 (i 0)]
def c_e:CC:=(.seq (.ops r_e_1) (bs [0]) (.seq (.ops r_e_2) (bs [0,3]) (.seq (.ops r_e_3) (bs [0,3,4]) (.seq (.seq (.ops r_e_4) (bs [0,3,4,5]) (.block 0 (.loop (bs [0,3,4,5]) c_e_16))) (bs [0]) (.seq (.ops r_e_17) [] (.seq (.ops r_e_18) (bs [2]) .ret))))))
def f_e:za:=⟨55,[.tmp (bits 2)],c_e,none,none⟩
def r_bf_1:List CI:=[oo 4 (.alloc [(iI 0),(iI 0)])]
def r_bf_2:List CI:=[mv 5 (t 1),mv 6 (t 0),nc 7 6,fa 8 0 7,fa 9 0 8,l 10 9,le 11 (t 10),bi .geq 12 (t 5) (t 11)]
def r_bf_3:List CI:=[oo 13 (.build [] []),oo 14 (.mkI 192 (t 13)),on (.panic (t 14))]
def r_bf_4:List CI:=[mv 15 (t 0),nc 16 15,fa 17 0 16,fa 18 0 17,l 19 18,mv 20 (t 1),ia 21 2 19 (t 20),ln 22 2 21,st 2 4 (t 22)]
def c_bf:CC:=(.seq (.ops r_bf_1) (bs [0,1,4]) (.seq (.seq (.ops r_bf_2) (bs [0,1,4,12]) (.cond (t 12) (.ops r_bf_3) .skip)) (bs [0,1,4]) (.seq (.ops r_bf_4) (bs [4]) .ret)))
def f_bf:za:=⟨23,[.cell (some 2) (bits 4)],c_bf,none,none⟩
def r_bg_1:List CI:=[mv 4 (.c (.slice none 0 0))]
def r_bg_2:List CI:=[mv 5 (t 1),bi .gtr 6 (t 5) (i 127)]
def r_bg_3:List CI:=[mv 9 (t 0),mv 10 (t 1),bi .and 11 (t 10) (i 127),bi .or 12 (t 11) (i 128),oo 13 (.conv .u8 (t 12)),oo 14 (.buildSlice 1 1 [(.int .u8 0)] [(0,(t 13))]),ap 15 1 1 (t 9) (t 14),mv 0 (t 15)]
def r_bg_4:List CI:=[mv 7 (t 1),bi .shr 8 (t 7) (.c (.int .u64 7)),mv 1 (t 8)]
def c_bg_5:CC:=(.seq (.seq (.ops r_bg_2) (bs [0,1,6]) (.cond (t 6) .skip (.exit 0))) (bs [0,1]) (.seq (.block 2 (.ops r_bg_3)) (bs [0,1]) (.ops r_bg_4)))
def r_bg_6:List CI:=[mv 16 (t 0),mv 17 (t 1),oo 18 (.conv .u8 (t 17)),oo 19 (.buildSlice 1 1 [(.int .u8 0)] [(0,(t 18))]),ap 20 1 1 (t 16) (t 19),mv 4 (t 20)]
def c_bg:CC:=(.seq (.ops r_bg_1) (bs [0,1]) (.seq (.block 0 (.loop (bs [0,1]) c_bg_5)) (bs [0,1]) (.seq (.ops r_bg_6) (bs [4]) .ret)))
def f_bg:za:=⟨21,[.tmp (bits 4)],c_bg,none,none⟩
def r_P_1:List CI:=[bx 1 (t 0),mv 2 ff]
def r_P_2:List CI:=[fa 3 0 1,l 4 3]
def r_P_3:List CI:=[bi .eql 6 (t 4) (i 2),mv 5 (t 6)]
def r_P_4:List CI:=[fa 7 1 1,l 8 7,ca 9 n_4 [(t 8),(i 0),(i 11)],mv 2 (t 9)]
def r_P_5:List CI:=[bi .eql 11 (t 4) (i 3),mv 10 (t 11)]
def r_P_6:List CI:=[fa 12 1 1,l 13 12,ca 14 n_4 [(t 13),(i 0),(i 59)],mv 2 (t 14)]
def r_P_7:List CI:=[bi .eql 16 (t 4) (i 4),mv 15 (t 16)]
def r_P_8:List CI:=[fa 17 1 1,l 18 17,ca 19 n_4 [(t 18),(i 0),(i 23)],mv 2 (t 19)]
def r_P_9:List CI:=[mv 2 ff]
def c_P:CC:=(.seq (.ops r_P_1) (bs [1]) (.seq (.seq (.ops r_P_2) (bs [1,4]) (.block 0 (.seq (.ops r_P_3) (bs [1,4,5]) (.cond (t 5) (.seq (.ops r_P_4) (bs [2]) .ret) (.seq (.ops r_P_5) (bs [1,4,10]) (.cond (t 10) (.seq (.ops r_P_6) (bs [2]) .ret) (.seq (.ops r_P_7) (bs [1,15]) (.cond (t 15) (.seq (.ops r_P_8) (bs [2]) .ret) .skip)))))))) [] (.seq (.ops r_P_9) (bs [2]) .ret)))
def f_P:za:=⟨20,[.tmp (bits 2)],c_P,none,none⟩
def r_V_1:List CI:=[mv 2 (.c (.string ⟨#[]⟩))]
def r_V_2:List CI:=[mv 3 (.c (.string ⟨#[]⟩))]
def r_V_3:List CI:=[mv 4 (t 0),bi .geq 5 (t 4) (i 128)]
def r_V_4:List CI:=[mv 6 (t 3),mv 7 (t 0),bi .rem 8 (t 7) (i 128),bi .add 9 (i 128) (t 8),oo 10 (.conv .u8 (t 9)),oo 11 (.buildSlice 1 1 [(.int .u8 0)] [(0,(t 10))]),oo 12 (.b2s (t 11)),bi .add 13 (t 6) (t 12),mv 3 (t 13)]
def r_V_5:List CI:=[mv 14 (t 0),bi .quo 15 (t 14) (i 128),mv 0 (t 15)]
def c_V_6:CC:=(.seq (.seq (.ops r_V_3) (bs [0,3,5]) (.cond (t 5) .skip (.exit 0))) (bs [0,3]) (.block 2 (.seq (.ops r_V_4) (bs [0,3]) (.ops r_V_5))))
def r_V_7:List CI:=[mv 16 (t 3),mv 17 (t 0),oo 18 (.conv .u8 (t 17)),oo 19 (.buildSlice 1 1 [(.int .u8 0)] [(0,(t 18))]),oo 20 (.b2s (t 19)),bi .add 21 (t 16) (t 20),mv 2 (t 21)]
def c_V:CC:=(.seq (.ops r_V_1) (bs [0]) (.seq (.ops r_V_2) (bs [0,3]) (.seq (.block 0 (.loop (bs [0,3]) c_V_6)) (bs [0,3]) (.seq (.ops r_V_7) (bs [2]) .ret))))
def f_V:za:=⟨22,[.tmp (bits 2)],c_V,none,none⟩
def r_G_1:List CI:=[mv 4 (i 0)]
def r_G_2:List CI:=[mv 6 (t 0),le 7 (t 6),mv 8 (i 0)]
def r_G_3:List CI:=[bi .lss 9 (t 8) (t 7)]
def r_G_4:List CI:=[mv 10 (t 8),mv 5 (t 10)]
def r_G_5:List CI:=[mv 11 (t 1),mv 12 (t 0),mv 13 (t 5),ia 14 1 12 (t 13),l 15 14,bi .eql 16 (t 11) (t 15)]
def r_G_6:List CI:=[mv 17 (t 5),mv 4 (t 17)]
def r_G_7:List CI:=[bi .add 18 (t 8) (i 1),mv 8 (t 18)]
def c_G_8:CC:=(.seq (.ops r_G_3) (bs [0,1,7,8,9]) (.seq (.cond (t 9) .skip (.exit 0)) (bs [0,1,7,8]) (.seq (.block 2 (.seq (.ops r_G_4) (bs [0,1,5,7,8]) (.seq (.ops r_G_5) (bs [0,1,5,7,8,16]) (.cond (t 16) (.seq (.ops r_G_6) (bs [4]) .ret) .skip)))) (bs [0,1,7,8]) (.ops r_G_7))))
def r_G_9:List CI:=[mv 4 (i (-1))]
def c_G:CC:=(.seq (.ops r_G_1) (bs [0,1]) (.seq (.seq (.ops r_G_2) (bs [0,1,7,8]) (.block 0 (.loop (bs [0,1,7,8]) c_G_8))) [] (.seq (.ops r_G_9) (bs [4]) .ret)))
def f_G:za:=⟨19,[.tmp (bits 4)],c_G,none,none⟩
def r_3_1:List CI:=[mv 4 ff]
def r_3_2:List CI:=[mv 5 (t 0),mv 6 (t 1),ca 7 n_t [(t 5),(t 6)],bi .geq 8 (t 7) (i 0),mv 4 (t 8)]
def c_3:CC:=(.seq (.ops r_3_1) (bs [0,1]) (.seq (.ops r_3_2) (bs [4]) .ret))
def f_3:za:=⟨9,[.tmp (bits 4)],c_3,none,none⟩
def r_bH_1:List CI:=[mv 3 ff]
def r_bH_2:List CI:=[l 4 1,mv 5 (t 0),oo 6 (.call (t 4) [(t 5)]),no 7 6,mv 3 (t 7)]
def c_bH:CC:=(.seq (.ops r_bH_1) (bs [0,1]) (.seq (.ops r_bH_2) (bs [3]) .ret))
def f_bH:za:=⟨8,[.tmp (bits 3)],c_bH,none,none⟩
def r_O_1:List CI:=[mv 4 ff]
def r_O_2:List CI:=[mv 5 (t 0),mv 6 (t 1),ca 7 n_k [(t 5),(t 6)],bi .geq 8 (t 7) (i 0),mv 4 (t 8)]
def c_O:CC:=(.seq (.ops r_O_1) (bs [0,1]) (.seq (.ops r_O_2) (bs [4]) .ret))
def f_O:za:=⟨9,[.tmp (bits 4)],c_O,none,none⟩
def r_bE_1:List CI:=[bx 2 (t 0),mv 3 ff]
def r_bE_2:List CI:=[l 4 1,ln 5 1 2,oo 6 (.call (t 4) [(t 5)]),no 7 6,mv 3 (t 7)]
def c_bE:CC:=(.seq (.ops r_bE_1) (bs [1,2]) (.seq (.ops r_bE_2) (bs [3]) .ret))
def f_bE:za:=⟨8,[.tmp (bits 3)],c_bE,none,none⟩
def r_M_1:List CI:=[mv 4 ff]
def r_M_2:List CI:=[mv 5 (t 0),mv 6 (t 1),ca 7 n_j [(t 5),(t 6)],bi .geq 8 (t 7) (i 0),mv 4 (t 8)]
def c_M:CC:=(.seq (.ops r_M_1) (bs [0,1]) (.seq (.ops r_M_2) (bs [4]) .ret))
def f_M:za:=⟨9,[.tmp (bits 4)],c_M,none,none⟩
def r_bC_1:List CI:=[bx 2 (t 0),mv 3 ff]
def r_bC_2:List CI:=[l 4 1,ln 5 2 2,oo 6 (.call (t 4) [(t 5)]),no 7 6,mv 3 (t 7)]
def c_bC:CC:=(.seq (.ops r_bC_1) (bs [1,2]) (.seq (.ops r_bC_2) (bs [3]) .ret))
def f_bC:za:=⟨8,[.tmp (bits 3)],c_bC,none,none⟩
def r_A_1:List CI:=[mv 4 ff]
def r_A_2:List CI:=[mv 5 (t 0),mv 6 (t 1),ca 7 n_f [(t 5),(t 6)],bi .geq 8 (t 7) (i 0),mv 4 (t 8)]
def c_A:CC:=(.seq (.ops r_A_1) (bs [0,1]) (.seq (.ops r_A_2) (bs [4]) .ret))
def f_A:za:=⟨9,[.tmp (bits 4)],c_A,none,none⟩
def r_bz_1:List CI:=[bx 2 (t 0),mv 3 ff]
def r_bz_2:List CI:=[l 4 1,ln 5 2 2,oo 6 (.call (t 4) [(t 5)]),no 7 6,mv 3 (t 7)]
def c_bz:CC:=(.seq (.ops r_bz_1) (bs [1,2]) (.seq (.ops r_bz_2) (bs [3]) .ret))
def f_bz:za:=⟨8,[.tmp (bits 3)],c_bz,none,none⟩
def r_F_1:List CI:=[mv 4 ff]
def r_F_2:List CI:=[mv 5 (t 0),mv 6 (t 1),ca 7 n_i [(t 5),(t 6)],bi .geq 8 (t 7) (i 0),mv 4 (t 8)]
def c_F:CC:=(.seq (.ops r_F_1) (bs [0,1]) (.seq (.ops r_F_2) (bs [4]) .ret))
def f_F:za:=⟨9,[.tmp (bits 4)],c_F,none,none⟩
def r_bA_1:List CI:=[bx 2 (t 0),mv 3 ff]
def r_bA_2:List CI:=[l 4 1,ln 5 4 2,oo 6 (.call (t 4) [(t 5)]),no 7 6,mv 3 (t 7)]
def c_bA:CC:=(.seq (.ops r_bA_1) (bs [1,2]) (.seq (.ops r_bA_2) (bs [3]) .ret))
def f_bA:za:=⟨8,[.tmp (bits 3)],c_bA,none,none⟩
def r_U_1:List CI:=[bx 3 (t 1),mv 4 (i 0)]
def r_U_2:List CI:=[mv 8 (t 0),nc 9 8,fa 10 1 9,l 11 10,ln 12 2 3,oo 13 (.lookup (.leaves [0,1]) (iI 0) true (t 11) (t 12)),mv 7 (t 13),ex 14 7 0,ex 15 7 1,mv 5 (t 14),mv 6 (t 15)]
def r_U_3:List CI:=[mv 16 (t 6),no 17 16]
def r_U_4:List CI:=[mv 18 (t 0),nc 19 18,fa 20 0 19,l 21 20,le 22 (t 21),mv 5 (t 22)]
def r_U_5:List CI:=[mv 24 (t 0),nc 25 24,fa 26 0 25,l 27 26,ln 28 2 3,oo 29 (.buildSlice 1 2 [(iI 0),(iI 0)] [(0,(t 28))]),ap 30 2 16 (t 27) (t 29),mv 23 (t 0),lo 1 (nc 31 23),lo 1 (fa 32 0 31),lo 1 (st 1 32 (t 30))]
def r_U_6:List CI:=[mv 33 (t 0),nc 34 33,fa 35 1 34,l 36 35,ln 37 2 3,mv 38 (t 5),on (.mapUpdate (.leaves [0,1]) (t 36) (t 37) (t 38))]
def r_U_7:List CI:=[mv 39 (t 5),mv 4 (t 39)]
def c_U:CC:=(.seq (.ops r_U_1) (bs [0,3]) (.seq (.draw r_U_2) (bs [0,3,5,6]) (.seq (.seq (.ops r_U_3) (bs [0,3,5,17]) (.cond (t 17) (.seq (.ops r_U_4) (bs [0,3,5]) (.seq (.draw r_U_5) (bs [0,3,5]) (.draw r_U_6))) .skip)) (bs [5]) (.seq (.ops r_U_7) (bs [4]) .ret))))
def f_U:za:=⟨40,[.tmp (bits 4)],c_U,none,none⟩
def r_t_1:List CI:=[mv 4 (i 0)]
def r_t_2:List CI:=[mv 6 (t 0),le 7 (t 6),mv 8 (i 0)]
def r_t_3:List CI:=[bi .lss 9 (t 8) (t 7)]
def r_t_4:List CI:=[mv 10 (t 8),mv 5 (t 10)]
def r_t_5:List CI:=[mv 11 (t 1),mv 12 (t 0),mv 13 (t 5),ia 14 1 12 (t 13),l 15 14,oo 16 (.call (t 11) [(t 15)])]
def r_t_6:List CI:=[mv 17 (t 5),mv 4 (t 17)]
def r_t_7:List CI:=[bi .add 18 (t 8) (i 1),mv 8 (t 18)]
def c_t_8:CC:=(.seq (.ops r_t_3) (bs [0,1,7,8,9]) (.seq (.cond (t 9) .skip (.exit 0)) (bs [0,1,7,8]) (.seq (.block 2 (.seq (.ops r_t_4) (bs [0,1,5,7,8]) (.seq (.ops r_t_5) (bs [0,1,5,7,8,16]) (.cond (t 16) (.seq (.ops r_t_6) (bs [4]) .ret) .skip)))) (bs [0,1,7,8]) (.ops r_t_7))))
def r_t_9:List CI:=[mv 4 (i (-1))]
def c_t:CC:=(.seq (.ops r_t_1) (bs [0,1]) (.seq (.seq (.ops r_t_2) (bs [0,1,7,8]) (.block 0 (.loop (bs [0,1,7,8]) c_t_8))) [] (.seq (.ops r_t_9) (bs [4]) .ret)))
def f_t:za:=⟨19,[.tmp (bits 4)],c_t,none,none⟩
def r_k_1:List CI:=[mv 4 (i 0)]
def r_k_2:List CI:=[mv 6 (t 0),le 7 (t 6),mv 8 (i 0)]
def r_k_3:List CI:=[bi .lss 9 (t 8) (t 7)]
def r_k_4:List CI:=[mv 10 (t 8),mv 5 (t 10)]
def r_k_5:List CI:=[mv 11 (t 1),mv 12 (t 0),mv 13 (t 5),ia 14 1 12 (t 13),ln 15 1 14,oo 16 (.call (t 11) [(t 15)])]
def r_k_6:List CI:=[mv 17 (t 5),mv 4 (t 17)]
def r_k_7:List CI:=[bi .add 18 (t 8) (i 1),mv 8 (t 18)]
def c_k_8:CC:=(.seq (.ops r_k_3) (bs [0,1,7,8,9]) (.seq (.cond (t 9) .skip (.exit 0)) (bs [0,1,7,8]) (.seq (.block 2 (.seq (.ops r_k_4) (bs [0,1,5,7,8]) (.seq (.ops r_k_5) (bs [0,1,5,7,8,16]) (.cond (t 16) (.seq (.ops r_k_6) (bs [4]) .ret) .skip)))) (bs [0,1,7,8]) (.ops r_k_7))))
def r_k_9:List CI:=[mv 4 (i (-1))]
def c_k:CC:=(.seq (.ops r_k_1) (bs [0,1]) (.seq (.seq (.ops r_k_2) (bs [0,1,7,8]) (.block 0 (.loop (bs [0,1,7,8]) c_k_8))) [] (.seq (.ops r_k_9) (bs [4]) .ret)))
def f_k:za:=⟨19,[.tmp (bits 4)],c_k,none,none⟩
end
section
def r_j_1:List CI:=[mv 4 (i 0)]
def r_j_2:List CI:=[mv 6 (t 0),le 7 (t 6),mv 8 (i 0)]
def r_j_3:List CI:=[bi .lss 9 (t 8) (t 7)]
def r_j_4:List CI:=[mv 10 (t 8),mv 5 (t 10)]
def r_j_5:List CI:=[mv 11 (t 1),mv 12 (t 0),mv 13 (t 5),ia 14 2 12 (t 13),ln 15 2 14,oo 16 (.call (t 11) [(t 15)])]
def r_j_6:List CI:=[mv 17 (t 5),mv 4 (t 17)]
def r_j_7:List CI:=[bi .add 18 (t 8) (i 1),mv 8 (t 18)]
def c_j_8:CC:=(.seq (.ops r_j_3) (bs [0,1,7,8,9]) (.seq (.cond (t 9) .skip (.exit 0)) (bs [0,1,7,8]) (.seq (.block 2 (.seq (.ops r_j_4) (bs [0,1,5,7,8]) (.seq (.ops r_j_5) (bs [0,1,5,7,8,16]) (.cond (t 16) (.seq (.ops r_j_6) (bs [4]) .ret) .skip)))) (bs [0,1,7,8]) (.ops r_j_7))))
def r_j_9:List CI:=[mv 4 (i (-1))]
def c_j:CC:=(.seq (.ops r_j_1) (bs [0,1]) (.seq (.seq (.ops r_j_2) (bs [0,1,7,8]) (.block 0 (.loop (bs [0,1,7,8]) c_j_8))) [] (.seq (.ops r_j_9) (bs [4]) .ret)))
def f_j:za:=⟨19,[.tmp (bits 4)],c_j,none,none⟩
def r_f_1:List CI:=[mv 4 (i 0)]
def r_f_2:List CI:=[mv 6 (t 0),le 7 (t 6),mv 8 (i 0)]
def r_f_3:List CI:=[bi .lss 9 (t 8) (t 7)]
def r_f_4:List CI:=[mv 10 (t 8),mv 5 (t 10)]
def r_f_5:List CI:=[mv 11 (t 1),mv 12 (t 0),mv 13 (t 5),ia 14 2 12 (t 13),ln 15 2 14,oo 16 (.call (t 11) [(t 15)])]
def r_f_6:List CI:=[mv 17 (t 5),mv 4 (t 17)]
def r_f_7:List CI:=[bi .add 18 (t 8) (i 1),mv 8 (t 18)]
def c_f_8:CC:=(.seq (.ops r_f_3) (bs [0,1,7,8,9]) (.seq (.cond (t 9) .skip (.exit 0)) (bs [0,1,7,8]) (.seq (.block 2 (.seq (.ops r_f_4) (bs [0,1,5,7,8]) (.seq (.ops r_f_5) (bs [0,1,5,7,8,16]) (.cond (t 16) (.seq (.ops r_f_6) (bs [4]) .ret) .skip)))) (bs [0,1,7,8]) (.ops r_f_7))))
def r_f_9:List CI:=[mv 4 (i (-1))]
def c_f:CC:=(.seq (.ops r_f_1) (bs [0,1]) (.seq (.seq (.ops r_f_2) (bs [0,1,7,8]) (.block 0 (.loop (bs [0,1,7,8]) c_f_8))) [] (.seq (.ops r_f_9) (bs [4]) .ret)))
def f_f:za:=⟨19,[.tmp (bits 4)],c_f,none,none⟩
def r_i_1:List CI:=[mv 4 (i 0)]
def r_i_2:List CI:=[mv 6 (t 0),le 7 (t 6),mv 8 (i 0)]
def r_i_3:List CI:=[bi .lss 9 (t 8) (t 7)]
def r_i_4:List CI:=[mv 10 (t 8),mv 5 (t 10)]
def r_i_5:List CI:=[mv 11 (t 1),mv 12 (t 0),mv 13 (t 5),ia 14 4 12 (t 13),ln 15 4 14,oo 16 (.call (t 11) [(t 15)])]
def r_i_6:List CI:=[mv 17 (t 5),mv 4 (t 17)]
def r_i_7:List CI:=[bi .add 18 (t 8) (i 1),mv 8 (t 18)]
def c_i_8:CC:=(.seq (.ops r_i_3) (bs [0,1,7,8,9]) (.seq (.cond (t 9) .skip (.exit 0)) (bs [0,1,7,8]) (.seq (.block 2 (.seq (.ops r_i_4) (bs [0,1,5,7,8]) (.seq (.ops r_i_5) (bs [0,1,5,7,8,16]) (.cond (t 16) (.seq (.ops r_i_6) (bs [4]) .ret) .skip)))) (bs [0,1,7,8]) (.ops r_i_7))))
def r_i_9:List CI:=[mv 4 (i (-1))]
def c_i:CC:=(.seq (.ops r_i_1) (bs [0,1]) (.seq (.seq (.ops r_i_2) (bs [0,1,7,8]) (.block 0 (.loop (bs [0,1,7,8]) c_i_8))) [] (.seq (.ops r_i_9) (bs [4]) .ret)))
def f_i:za:=⟨19,[.tmp (bits 4)],c_i,none,none⟩
end
end Go.Ideal.Q
namespace Go.Ideal
section
noncomputable section
variable {P:Program}
def zbV (W:World) (b:Nat):Bool:=match W.heap[b]? with
 |some (.cells _ _ _)=>true
 |_=>false
def okV (W:World):Value→Bool
 |.bool _=>true
 |.int _ _=>true
 |.string _=>true
 |.nilFunc=>true
 |.pointer none=>true
 |.map none=>true
 |.slice none 0 0=>true
 |.slice (some a) len cap=>a.spot.isNone&&(decide (len≤cap)&&(decide (cap<zc)&&zbV W a.block))
 |.pointer (some a)=>a.spot.isNone&&zbV W a.block
 |_=>false
def isDang:Value→Bool
 |.slice (some _) 0 0=>true
 |_=>false
def dang (W:World):Value:=.slice (some ⟨W.heap.size,0,none⟩) 0 0
def impV (W:World) (v:Value):Value:=if okV W v then v else if isDang v then dang W else poison
def impObj (W:World):Obj→Option IObj
 |.cells c _ _=>some (.cells (c.toList.map (impV W)) roE)
 |_=>none
open Classical in
def dangR (W:World):Option RB:=if h: ∃b,zbV W b=true then some ⟨Classical.choose h,0,0,0,1,none⟩ else none
def zd2 (W:World) (i:Nat):Option RB:=if i=W.heap.size then dangR W else(W.heap[i]?).bind fun o=>match o with
 |.cells c _ _=>some ⟨i,0,c.size,roE,c.size,some o⟩
 |_=>none
def zlW (W:World) (n:Nat):PT IObj:=Nat.rec (motive:=fun _=>PT IObj) .nil (fun i t=>match(W.heap[i]?).bind (impObj W) with|some o=>t.set (bits i) o|none=>t) n
def impH (W:World):H:=⟨W.heap.size+1,zlW W W.heap.size⟩
theorem ziH (W:World): ∀(n j:Nat),(zlW W n).get (bits j)=if j<n then(W.heap[j]?).bind (impObj W) else none
 |0,j=>by rw[if_neg (by omega)];exact PT.get_nil _
 |n+1,j=>by
  have e:zlW W (n+1)=match(W.heap[n]?).bind (impObj W) with|some o=>(zlW W n).set (bits n) o|none=>zlW W n:=rfl
  rw[e];cases ho:(W.heap[n]?).bind (impObj W) with
  |none=>
   rw[ziH W n j];by_cases h:j<n
   ·rw[if_pos h,if_pos (by omega)]
   ·rw[if_neg h];by_cases e:j=n
    ·subst e;rw[if_pos (by omega),ho]
    ·rw[if_neg (by omega)]
  |some o=>
   dsimp only;rw[PT.get_set_bits,ziH W n j];by_cases e:n=j
   ·subst e;rw[if_pos rfl,if_pos (by omega),ho]
   ·rw[if_neg e];by_cases h:j<n
    ·rw[if_pos h,if_pos (by omega)]
    ·rw[if_neg h,if_neg (by omega)]
theorem zhT (W:World) (j:Nat):(impH W).get j=(W.heap[j]?).bind (impObj W):=by
 show(zlW W W.heap.size).get (bits j)=_;rw[ziH];by_cases h:j<W.heap.size
 ·rw[if_pos h]
 ·rw[if_neg h,qr (by omega)];rfl
theorem ziI {W:World} {b:Nat} {c:Array Value} {t:TypeId} {fr:Nat×Nat} (h:W.heap[b]? =some (.cells c t fr)):(impH W).get b=some (.cells (c.toList.map (impV W)) roE):=by rw[zhT,h];rfl
theorem impH_next (W:World):(impH W).next=W.heap.size+1:=rfl
theorem zlV {W:World} {b:Nat} (h:zbV W b=true):b<W.heap.size:=by
 unfold zbV at h
 split at h
 ·rename_i hb;exact(qC.1 hb).1
 ·cases h
theorem impRho_lt {W:World} {i:Nat} (h:i<W.heap.size):zd2 W i=(W.heap[i]?).bind fun o=>match o with|.cells c _ _=>some ⟨i,0,c.size,roE,c.size,some o⟩|_=>none:=by
 unfold zd2;rw[if_neg (by omega)]
theorem zf6 {W:World} {b:Nat} (h:zbV W b=true): ∃R,zd2 W b=some R∧R.blk=b∧R.base=0:=by
 have hlt:=zlV h;unfold zbV at h
 split at h
 ·rename_i c t fr hb;exact⟨_,by rw[impRho_lt hlt,hb];rfl,rfl,rfl⟩
 ·cases h
theorem okV_rel {W:World} {v:Value} (h:okV W v=true):VR (zd2 W) v v:=by
 unfold okV at h
 split at h
 ·exact .bool _
 ·exact .int _ _
 ·exact .str _
 ·exact .nilFunc
 ·exact .ptrNil
 ·exact .mapNil
 ·exact .sliceNil
 ·rename_i a len cap;simp only[qb,qE,decide_eq_true_eq] at h;obtain⟨h1,h2,h3,h4⟩:=h;obtain⟨R,hR,hb,h0⟩:=zf6 h4;obtain⟨b,o,sp⟩:=a;simp only at h1 hR hb;subst h1;have:=VR.slice (o:=o) (len:=len) hR h3 h2;rw[hb,h0,qJ] at this;exact this
 ·rename_i a;simp only[qb,qE] at h;obtain⟨h1,h4⟩:=h;obtain⟨R,hR,hb,h0⟩:=zf6 h4;obtain⟨b,o,sp⟩:=a;simp only at h1 hR hb;subst h1;have:=VR.ptr (o:=o) hR;rw[hb,h0,qJ] at this;exact this
 ·cases h
theorem zfc {W:World} {i:Nat} {R:RB} (h:zd2 W i=some R):(i≠W.heap.size∧ ∃c t fr,W.heap[i]? =some (.cells c t fr)∧R=⟨i,0,c.size,roE,c.size,some (.cells c t fr)⟩)∨(i=W.heap.size∧zbV W R.blk=true):=by
 unfold zd2 at h
 split at h
 ·rename_i e;refine .inr ⟨e,?_⟩;unfold dangR at h
  split at h
  ·rename_i hx;cases h;exact Classical.choose_spec hx
  ·cases h
 ·rename_i e;obtain⟨o,ho,h⟩:=aof h;cases o with
  |cells c t fr=>cases h;exact .inl ⟨e,c,t,fr,ho,rfl⟩
  |_=>cases h
theorem ziG {W:World} {i:Nat} {R:RB} {o:IObj} (h:zd2 W i=some R) (ho:(impH W).get i=some o): ∃c t fr,W.heap[i]? =some (.cells c t fr)∧R=⟨i,0,c.size,roE,c.size,some (.cells c t fr)⟩:=by
 rcases zfc h with⟨-,h⟩| ⟨rfl,-⟩
 ·exact h
 ·rw[zhT,qr (qt _)] at ho;cases ho
theorem dang_rel {W:World} {v:Value} {b:Nat} (hb:zbV W b=true) (h:isDang v=true):VR (zd2 W) (dang W) v:=by
 unfold isDang at h
 split at h
 ·refine .sliceD (R:=⟨Classical.choose (⟨b,hb⟩: ∃b,zbV W b=true),0,0,0,1,none⟩) ?_ (by show 0<1;omega);unfold zd2;rw[if_pos rfl];unfold dangR;rw[dif_pos ⟨b,hb⟩]
 ·cases h
theorem imp_HR (W:World):HR P (zd2 W) (impH W) W where
 obj:=fun i R o hi ho=>by
  obtain⟨c,t,fr,hb,rfl⟩:=ziG hi ho;rw[ziI hb] at ho;cases ho;refine⟨rfl,by simp,c,t,fr,hb,.inr ⟨rfl,rfl⟩,rfl,by simp,fun j v hj=> ?_⟩;rw[List.getElem?_map] at hj;obtain⟨x,hx,rfl⟩:=Option.map_eq_some_iff.1 hj;refine⟨x,by rw[Array.getElem?_toList] at hx;simpa using hx,?_⟩;unfold impV;by_cases hok:okV W x=true
  ·rw[if_pos hok];exact .inr (okV_rel hok)
  ·rw[if_neg hok];by_cases hd:isDang x=true
   ·rw[if_pos hd];exact .inr (dang_rel (b:=i) (by unfold zbV;rw[hb]) hd)
   ·rw[if_neg hd];exact .inl rfl
 nxt:=fun i hi=>by
  have hi':W.heap.size+1≤i:=hi;have hn:W.heap[i]? =none:=qr (by omega);exact⟨by unfold zd2;rw[if_neg (by omega),hn];rfl,by rw[zhT,hn];rfl⟩
 sep:=fun i j R S hi hj ai aj e=>by
  obtain⟨o,ho,-⟩:=ai;obtain⟨o',ho',-⟩:=aj;obtain⟨_,_,_,_,rfl⟩:=ziG hi ho;obtain⟨_,_,_,_,rfl⟩:=ziG hj ho';exact e
 blk:=fun i R hi=>by
  rcases zfc hi with⟨-,_,_,_,hb,rfl⟩| ⟨-,hc⟩
  ·exact(qC.1 hb).1
  ·exact zlV hc
 glb:=fun i b x hi=>by
  rw[zhT] at hi;obtain⟨o,-,ho⟩:=aof hi;cases o<;>cases ho
def okArg (W:World):Value→Bool
 |.agg cs=>cs.toList.all (okV W)
 |v=>okV W v
theorem okArg_rel {W:World} {v:Value} (h:okArg W v=true):VR (zd2 W) v v:=by
 unfold okArg at h
 split at h
 ·rename_i cs;have:VRL (zd2 W) cs.toList cs.toList:=⟨rfl,fun j x y hx hy=>by rw[hx] at hy;cases hy;exact okV_rel (qe.1 h x (qi hx))⟩;exact VR.agg_of this
 ·exact okV_rel h
theorem calls_import {F:FuncId→Option za} (hmix:P.follows .mixedOrders=true) (hF: ∀g cf,F g=some cf→FnOk P g cf) {g:FuncId} {args:Array Value} {W:World} (hargs: ∀v∈args.toList,okArg W v=true)
 {b:Bool} {n:Nat} {h':H} (hn:E F n (.call (.func (.func g) #[] #[]) args.toList (impH W))=some (.val (.bool b) h')) (hfr: ∀i,i<W.heap.size→h'.get i=(impH W).get i):
 Calls P g args W fun e W'=>e=.returned (.bool b)∧Same W W':=by
 have ra:VRL (zd2 W) args.toList args.toList:=⟨rfl,fun j x y hx hy=>by rw[hx] at hy;cases hy;exact okArg_rel (hargs x (qi hx))⟩;refine(ziR hmix hF hn ra (imp_HR W)).mono ?_;rintro e W' ⟨v',σ,rfl,hv,hr,hx⟩;refine⟨by rw[hv.inv_bool],hx.os,hx.out,fun B hB=> ?_,hx.froz,hx.td,hx.size⟩;by_cases hc:zbV W B=true
 ·obtain⟨R,hR,hb,h0⟩:=zf6 hc;obtain⟨-,c,t,fr,hWB,rfl⟩:=(zfc hR).resolve_right (fun h=>by omega);have ho:=hr.obj B _ _ (hx.le _ _ hR) (by rw[hfr B hB];exact ziI hWB);obtain⟨_,_,c',t',fr',q1,q2,_⟩:=ho;rcases q2 with⟨q2,_⟩| ⟨q2,_⟩
  ·cases q2
  ·rw[q1,hWB];exact(q2.symm▸rfl:some (Obj.cells c' t' fr')=some (Obj.cells c t fr))
 ·refine hx.frame B hB fun i R hi e=> ?_;rcases zfc hi with⟨-,c,t,fr,hWB,rfl⟩| ⟨-,hcc⟩
  ·have e:i=B:=e;subst e;exact hc (by unfold zbV;rw[hWB])
  ·rw[e] at hcc;exact hc hcc
theorem prim_of {F:FuncId→Option za} (hmix:P.follows .mixedOrders=true) (hF: ∀g cf,F g=some cf→FnOk P g cf) {g:FuncId} {fn:Func} {cf0:za} (hfn:P.funcs[g]? =some fn) (hcf:z8 P fn=some (zfy cf0)) {b:Bool} {n:Nat} {h':H}
 (he:E F n (.call (.func (.func g) #[] #[]) [] .empty)=some (.val (.bool b) h')):FnOk P g (zix b):=by
 refine .inr (.inl ⟨fn,cf0,b,hfn,hcf,rfl,fun w=> ?_⟩);have hr:HR P (fun _=>none) H.empty w:=⟨fun _ _ _ h=>(by cases h),fun i _=>⟨rfl,PT.get_nil _⟩,fun _ _ _ _ h=>(by cases h),fun _ _ h=>(by cases h),fun i _ _ h=>by rw[H.get_empty] at h;cases h⟩;refine(ziR hmix hF he (args':= #[]) ⟨rfl,fun j x y hx=>by simp at hx⟩ hr).mono ?_;rintro e w' ⟨v',σ,rfl,hv,-,hx⟩;exact⟨by rw[hv.inv_bool],hx.os,hx.out,fun B hB=>hx.frame B hB fun _ _ h=>(by cases h),hx.froz,hx.td,hx.size⟩
section
open Go.ChangeShapes Go.WideShapes Go.RowKit
variable {H:Type} {enc:TypeId×Value→H}
theorem Same.kept {W W':World} (h:Same W W') (may:MemPlace→Prop):W.keptBut W' may:=by
 refine⟨h.os,h.out,fun i hi=> ?_⟩;rw[h.heap i hi];cases ho:W.heap[i]? with
 |none=>trivial
 |some o=>
  cases o with
  |cells c t fr=>exact⟨rfl,rfl,rfl,fun _ _=>rfl⟩
  |map es c=>exact .inr ⟨rfl,rfl⟩
  |_=>rfl
theorem Same.at {W W':World} (h:Same W W') {p:MemPlace} (hp:p.block<W.heap.size):W.sameAt W' p:=by
 cases p with
 |cell b off=>
  show W'.cell? ⟨b,off,none⟩=W.cell? ⟨b,off,none⟩;have:=h.heap b hp;simp only[World.cell?,this]
 |map b=>exact h.heap b hp
theorem zhx (hl:laidOutB P=true) {W W':World} {sp':Nat→Bool} (hs:Same W W'): ∀{ts:List TypeId} {vs:List Value} {ds:List (DataW H)} {ps:List MemPlace},(∀t∈ts,P.readableRec t=true∧t<P.types.size)→
 DataW.TrodAll enc P W 0 (fun _=>true) true ts vs ds ps→(∀p∈ps,p.block<W.heap.size)→(∀p∈ps,sp' p.block=true)→DataW.TrodAll enc P W' 0 sp' true ts vs ds ps
 | [],vs,ds,ps,_,h,_,_=>by
   obtain⟨rfl,rfl,rfl⟩:=trodAll_nil h;exact trodAll_mk0
 |t::ts,vs,ds,ps,ht,h,hlt,hsp=>by
  obtain⟨v,vs',d,ds',p,q,rfl,rfl,rfl,h1,h2⟩:=trodAll_cons h;obtain⟨r1,r2⟩:=ht t (by simp);exact trodAll_cons_mk (WideElems.Trod_stays hl r1 r2 h1 (fun x hx=>hs.at (hlt x (by simp[hx]))) (fun x hx=>hsp x (by simp[hx])))
   (zhx hl hs (fun t ht'=>ht t (by simp[ht'])) h2 (fun x hx=>hlt x (by simp[hx])) (fun x hx=>hsp x (by simp[hx])))
theorem post_kept {f:Func} {s:ChangeSpec} {apart fresh handsOn again:Bool} {W W':World} {args:Array Value} {v:Value} {ds gs:List (DataW H)} {before pa pv:List MemPlace}
 (hW:DataW.Whole enc P f.params.toList s.vars apart W args.toList ds gs before)
 (hres: ∀(b:Nat) (sp:Nat→Bool) (hd:Bool),DataW.TrodAll enc P W' b sp hd f.resultTypes.toList (v.resultList f.resultTypes.size) (s.fn H (ds++gs)).results [])
 (hargs: ∀sp:Nat→Bool,(∀p∈before,sp p.block=true)→DataW.TrodAll enc P W' 0 sp true f.params.toList args.toList (s.fn H (ds++gs)).args pa)
 (hvars: ∀sp:Nat→Bool,(∀p∈before,sp p.block=true)→DataW.TrodVars enc P W' sp s.vars (s.fn H (ds++gs)).vars pv)
 (hps:before=pa++pv) (hk:W.keptBut W' (· ∈before)) (hfz: ∀a:Addr,a.block<W.heap.size→W'.frozen? a=W.frozen? a)
 (hok: ∀(j:Nat) (t:TypeId) (r:Value),f.resultTypes[j]? =some t→(v.resultList f.resultTypes.size)[j]? =some r→Value.okWide P W' .any 0 t r):
 s.post enc P f apart fresh handsOn again W args v W':=by
 refine⟨ds,gs,before,[],pa,pv,hW,hres _ _ _,hargs _ fun p hp=>by simpa using hW.lt p hp,hvars _ fun p hp=>by simpa using hW.lt p hp,World.keptBut_mono (fun p hp=>⟨hp,?_⟩) hk,fun _=> ?_⟩
 ·rw[hps,qR] at hp;exact Or.inr hp
 ·have hlt:=hW.lt;obtain⟨_,_,_,_,_,hz,hn⟩:=hW;refine⟨hok,_,_,([]++pa)++pv,⟨[]++pa,pv,trodAll_append (hargs _ (fun _ _=>rfl)) (hres _ _ _),hvars _ (fun _ _=>rfl),rfl,fun b off hp=> ?_,fun ha=> ?_⟩,fun p hp _=> ?_⟩
  ·have hb:MemPlace.cell b off∈before:=by rw[hps];simpa using hp
   rw[hfz ⟨b,off,none⟩ (hlt _ hb)];exact hz b off hb
  ·have:=hn ha;rw[hps] at this;simpa using this
  ·rw[hps];simpa using hp
theorem law_post {s:ChangeSpec} {fn:Func} {apart fresh handsOn again:Bool} {W W':World} {args:Array Value} {ds gs:List (DataW H)} {before:List MemPlace} {t:TypeId} (hW:DataW.Whole enc P fn.params.toList s.vars apart W args.toList ds gs before)
 (hvars:s.vars=[]) (hspec:s.fn H (ds++gs)={results:=[.lit (.bool true)],args:=ds}) (hres:fn.resultTypes= #[t]) (ht:P.underlying t=some .bool) (hsame:Same W W') (hl:laidOutB P=true) (hr: ∀t∈fn.params.toList,P.readableRec t=true∧t<P.types.size):
 s.post enc P fn apart fresh handsOn again W args (.bool true) W':=by
 have hW':=hW;obtain⟨p,q,hA,hV,rfl,hfz,hnd⟩:=hW;rw[hvars] at hV;obtain⟨rfl,rfl⟩:=trodVars_none hV;refine post_kept (pa:=p) (pv:=[]) hW' (fun b sp hd=> ?_) (fun sp hsp=> ?_) (fun sp hsp=> ?_) rfl (hsame.kept _) hsame.froz ?_
 ·rw[hspec,hres];exact trodAll_mk1 (shut_bool ht true)
 ·rw[hspec];exact zhx hl hsame hr hA (fun x hx=>hW'.lt x (by simp[hx])) (fun x hx=>hsp x (by simp[hx]))
 ·rw[hspec,hvars];rfl
 ·exact ok_one hres rfl (okWide_bool_mk ht true)
end
end
end
section
noncomputable section
variable {P:Program}
def allEq {α:Type} (f:α→α→Bool):List α→List α→Bool
 | [],[]=>true
 |a::l,b::m=>f a b&&allEq f l m
 |_,_=>false
theorem zgH {α:Type} {f:α→α→Bool} (hf: ∀a b,f a b=true→a=b): ∀{l m:List α},allEq f l m=true→l=m
 | [],[],_=>rfl
 | [],_::_,h=>by cases h
 |_::_,[],h=>by cases h
 |a::l,b::m,h=>by
  simp only[allEq,qb] at h;rw[hf _ _ h.1,zgH hf h.2]
def eqX:Nat→Value→Value→Bool
 |n+1,.agg a,.agg b=>allEq (eqX n) a.toList b.toList
 |n+1,.tuple a,.tuple b=>allEq (eqX n) a.toList b.toList
 |n+1,.iface t a,.iface u b=>qh t u&&eqX n a b
 |_,.nilIface,.nilIface=>true
 |_,.func (.func f) a b,.func (.func g) c d=>qh f g&&(a.isEmpty&&b.isEmpty&&(c.isEmpty&&d.isEmpty))
 |_,a,b=>zgV a b
theorem zl3: ∀(n:Nat) (a b:Value),eqX n a b=true→a=b:=by
 intro n
 induction n with
 |zero=>
  intro a b h;unfold eqX at h
  split at h
  ·rename_i e;exact absurd e (by simp)
  ·rename_i e;exact absurd e (by simp)
  ·rename_i e;exact absurd e (by simp)
  ·rfl
  ·simp only[qb,qq] at h;obtain⟨h1,⟨h2,h3⟩,h4,h5⟩:=h;rw[qd h1,h2,h3,h4,h5]
  ·exact zh3 h
 |succ n ih=>
  intro a b h;unfold eqX at h
  split at h
  ·rename_i e;cases e;rw[qP.1 (zgH ih h)]
  ·rename_i e;cases e;rw[qP.1 (zgH ih h)]
  ·rename_i e;cases e;rw[qb] at h;rw[qd h.1,ih _ _ h.2]
  ·rfl
  ·simp only[qb,qq] at h;obtain⟨h1,⟨h2,h3⟩,h4,h5⟩:=h;rw[qd h1,h2,h3,h4,h5]
  ·exact zh3 h
def eqEnt (a b:Value×Value×Nat):Bool:=eqX 4 a.1 b.1&&(eqX 4 a.2.1 b.2.1&&qh a.2.2 b.2.2)
theorem eqEnt_eq (a b:Value×Value×Nat) (h:eqEnt a b=true):a=b:=by
 simp only[eqEnt,qb] at h;obtain⟨a1,a2,a3⟩:=a;obtain⟨b1,b2,b3⟩:=b;have h1:=zl3 _ _ _ h.1;have h2:=zl3 _ _ _ h.2.1;have h3:=qd h.2.2;simp only at h1 h2 h3;rw[h1,h2,h3]
def eqObj:IObj→IObj→Bool
 |.cells a e,.cells b f=>qh e f&&allEq (eqX 4) a b
 |.map a c,.map b d=>qh c d&&allEq eqEnt a b
 |.glob b x,.glob c y=>qh b c&&eqX 4 x y
 |.dead,.dead=>true
 |_,_=>false
theorem eqObj_eq {a b:IObj} (h:eqObj a b=true):a=b:=by
 unfold eqObj at h
 split at h
 ·rw[qb] at h;rw[qd h.1,zgH (zl3 4) h.2]
 ·rw[qb] at h;rw[qd h.1,zgH eqEnt_eq h.2]
 ·rw[qb] at h;rw[qd h.1,zl3 _ _ _ h.2]
 ·rfl
 ·cases h
def liveO:IObj→Bool
 |.dead=>false
 |_=>true
def refF (S:Nat→Bool):Nat→Value→Bool
 |n+1,.agg a=>a.toList.all (refF S n)
 |n+1,.tuple a=>a.toList.all (refF S n)
 |n+1,.iface _ v=>refF S n v
 |_,.pointer (some a)=>S a.block
 |_,.slice (some a) _ _=>S a.block
 |_,.map (some i)=>S i
 |_,.func (.func _) a b=>a.isEmpty&&b.isEmpty
 |_,.bool _=>true
 |_,.int _ _=>true
 |_,.string _=>true
 |_,.pointer none=>true
 |_,.slice none _ _=>true
 |_,.map none=>true
 |_,.nilFunc=>true
 |_,.nilIface=>true
 |_,.complex _ _ _=>true
 |_,_=>false
theorem VR.agree {ρ σ:Rho} {S:Nat→Bool} (hS: ∀i,S i=true→σ i=ρ i): ∀(n:Nat) {v v':Value},VR ρ v v'→refF S n v=true→VR σ v v':=by
 intro n
 induction n with
 |zero=>
  intro v v' h hv;cases h with
  |bool b=>exact .bool b
  |int k n=>exact .int k n
  |str s=>exact .str s
  |ptrNil=>exact .ptrNil
  |ptr h=>exact .ptr ((hS _ hv).trans h)
  |sliceNil=>exact .sliceNil
  |slice h hc hl=>exact .slice ((hS _ hv).trans h) hc hl
  |sliceO h he hl hs hb=>exact .sliceO ((hS _ hv).trans h) he hl hs hb
  |sliceE h he hb=>exact .sliceE ((hS _ hv).trans h) he hb
  |sliceD h hm=>exact .sliceD ((hS _ hv).trans h) hm
  |sliceR h he hl=>exact .sliceR ((hS _ hv).trans h) he hl
  |mapNil=>exact .mapNil
  |map h=>exact .map ((hS _ hv).trans h)
  |func f ha hb ra rb=>
   have hv:(qD _&&qD _)=true:=hv;simp only[qb,qq] at hv;obtain⟨rfl,rfl⟩:=hv;exact .func f ha hb (fun j x y hx=>by simp at hx) (fun j x y hx=>by simp at hx)
  |yield h=>cases hv
  |nilFunc=>exact .nilFunc
  |nilIface=>exact .nilIface
  |iface t h=>cases hv
  |agg ha ra=>cases hv
  |tuple ha ra=>cases hv
 |succ n ih=>
  intro v v' h hv;cases h with
  |bool b=>exact .bool b
  |int k n=>exact .int k n
  |str s=>exact .str s
  |ptrNil=>exact .ptrNil
  |ptr h=>exact .ptr ((hS _ hv).trans h)
  |sliceNil=>exact .sliceNil
  |slice h hc hl=>exact .slice ((hS _ hv).trans h) hc hl
  |sliceO h he hl hs hb=>exact .sliceO ((hS _ hv).trans h) he hl hs hb
  |sliceE h he hb=>exact .sliceE ((hS _ hv).trans h) he hb
  |sliceD h hm=>exact .sliceD ((hS _ hv).trans h) hm
  |sliceR h he hl=>exact .sliceR ((hS _ hv).trans h) he hl
  |mapNil=>exact .mapNil
  |map h=>exact .map ((hS _ hv).trans h)
  |func f ha hb ra rb=>
   have hv:(qD _&&qD _)=true:=hv;simp only[qb,qq] at hv;obtain⟨rfl,rfl⟩:=hv;exact .func f ha hb (fun j x y hx=>by simp at hx) (fun j x y hx=>by simp at hx)
  |yield h=>cases hv
  |nilFunc=>exact .nilFunc
  |nilIface=>exact .nilIface
  |iface t h=>exact .iface t (ih h hv)
  |agg ha ra=>
   exact .agg ha (fun j x y hx hy=>ih (ra j x y hx hy) (qe.1 (show(Array.toList _).all (refF S n)=true from hv) x (qH.2 (qG hx))))
  |tuple ha ra=>
   exact .tuple ha (fun j x y hx hy=>ih (ra j x y hx hy) (qe.1 (show(Array.toList _).all (refF S n)=true from hv) x (qH.2 (qG hx))))
def refO (S:Nat→Bool):IObj→Bool
 |.cells cs _=>cs.all (refF S 4)
 |.map es _=>es.all fun e=>refF S 4 e.1&&refF S 4 e.2.1
 |.glob _ _=>true
 |.dead=>true
 |.loop _ _ _ _=>false
theorem OR.agree {ρ σ:Rho} {S:Nat→Bool} (hS: ∀i,S i=true→σ i=ρ i) {w:World} {R:RB} {o:IObj} (h:OR P ρ w R o) (ho:refO S o=true):OR P σ w R o:=by
 cases o with
 |cells cs esz=>
  obtain⟨h1,h2,c,t,fr,h3,h7,h4,h5,h6⟩:=h;exact⟨h1,h2,c,t,fr,h3,h7,h4,h5,fun j v hj=>let⟨v',a,b⟩:=h6 j v hj;⟨v',a,b.imp id (fun b=>b.agree hS 4 (qe.1 ho v (qi hj)))⟩⟩
 |map es clock=>
  obtain⟨es',h1,h2,h3⟩:=h;refine⟨es',h1,h2,fun j e hj=> ?_⟩;obtain⟨e',a,b,c,d⟩:=h3 j e hj;have:=qe.1 ho e (qi hj);rw[qb] at this;exact⟨e',a,b.agree hS 4 this.1,c.agree hS 4 this.2,d⟩
 |glob b x=>exact h
 |loop _ _ _ _=>cases ho
 |dead=>trivial
theorem VRL.agree {ρ σ:Rho} {S:Nat→Bool} (hS: ∀i,S i=true→σ i=ρ i) {xs ys:List Value} (h:VRL ρ xs ys) (hx:xs.all (refF S 4)=true):VRL σ xs ys:=
 ⟨h.1,fun j x y h1 h2=>(h.2 j x y h1 h2).agree hS 4 (qe.1 hx x (qi h1))⟩
structure zc1 where
 args:List Value
 next:Nat
 pre:List (Nat×IObj)
 val:Value
 next':Nat
 post:List (Nat×IObj)
def zj3 (l:List (Nat×IObj)) (t:PT IObj):PT IObj:=List.rec (motive:=fun _=>PT IObj) t (fun x _ ih=>ih.set (bits x.1) x.2) l
def matchH (h:H) (l:List (Nat×IObj)):Bool:=l.all fun x=>match h.get x.1 with
 |some o=>eqObj o x.2
 |none=>false
def zbu (l:List (Nat×IObj)) (i:Nat):Bool:=l.any fun x=>qh x.1 i
def zc1.fits (p:zc1) (args:List Value) (h:H):Bool:=qh h.next p.next&&(allEq (eqX 4) args p.args&&matchH h p.pre)
def zc1.out (p:zc1) (h:H):Value×H:=(p.val,⟨p.next',zj3 p.post h.mem⟩)
def ze9 (l:List zc1) (args:List Value) (h:H):Option (Value×H):=
 List.rec (motive:=fun _=>Option (Value×H)) none (fun p _ ih=>match p.fits args h with|true=>some (p.out h)|false=>ih) l
def zc1.start (p:zc1):H:=⟨p.next,zj3 p.pre .nil⟩
def zc1.ends (p:zc1):Option Out→Bool
 |some (.val v h)=>eqX 4 v p.val&&(qh h.next p.next'&&matchH h p.post)
 |_=>false
def zc1.runs (F:FuncId→Option za) (n:Nat) (g:FuncId) (p:zc1):Bool:=p.ends (E F n (.call (.func (.func g) #[] #[]) p.args p.start))
def zc1.good (p:zc1):Bool:=
 Nat.ble p.next p.next'&&(p.pre.all (fun x=>Nat.blt x.1 p.next&&zbu p.post x.1)&&(p.post.all (fun x=>zbu p.pre x.1||(Nat.ble p.next x.1&&Nat.blt x.1 p.next'))&&
 (p.args.all (refF (zbu p.pre) 4)&&(p.pre.all (fun x=>liveO x.2&&refO (zbu p.pre) x.2)&&(refF (zbu p.post) 4 p.val&&p.post.all (fun x=>refO (zbu p.post) x.2))))))
theorem hasId_iff {l:List (Nat×IObj)} {i:Nat}:zbu l i=true↔ ∃o,(i,o)∈l:=by
 unfold zbu;rw[List.any_eq_true];constructor
 ·rintro⟨⟨j,o⟩,h1,h2⟩;exact⟨o,by rw[←qd h2];exact h1⟩
 ·rintro⟨o,h⟩;exact⟨(i,o),h,Nat.beq_refl i⟩
theorem zlF {l:List (Nat×IObj)} {t:PT IObj} {i:Nat} (h:zbu l i=false):(zj3 l t).get (bits i)=t.get (bits i):=by
 induction l with
 |nil=>rfl
 |cons x l ih=>
  have h':(qh x.1 i||zbu l i)=false:=h;rw[Bool.or_eq_false_iff] at h';show((zj3 l t).set (bits x.1) x.2).get (bits i)=_;rw[PT.get_set_bits,if_neg (by rintro rfl;rw[Nat.beq_refl] at h';cases h'.1),ih h'.2]
theorem setAll_in {l:List (Nat×IObj)} {t:PT IObj} {i:Nat} (h:zbu l i=true): ∃o,(i,o)∈l∧(zj3 l t).get (bits i)=some o:=by
 induction l with
 |nil=>cases h
 |cons x l ih=>
  have e:(zj3 (x::l) t).get (bits i)=if x.1=i then some x.2 else(zj3 l t).get (bits i):=PT.get_set_bits _ _ _ _;rw[e];by_cases hi:x.1=i
  ·rw[if_pos hi];exact⟨x.2,by subst hi;simp,rfl⟩
  ·rw[if_neg hi];have h':(qh x.1 i||zbu l i)=true:=h;rw[qS] at h';obtain⟨o,h1,h2⟩:=ih (h'.resolve_left fun e=>hi (qd e));exact⟨o,by simp[h1],h2⟩
theorem zlT {h:H} {l:List (Nat×IObj)} (hm:matchH h l=true) {i:Nat} {o:IObj} (hi:(i,o)∈l):h.get i=some o:=by
 have:=qe.1 hm _ hi;dsimp only at this
 split at this
 ·rename_i o' ho;have e:=eqObj_eq this;subst e;exact ho
 ·cases this
theorem piece_calls {F:FuncId→Option za} (hmix:P.follows .mixedOrders=true) (hF: ∀g cf,F g=some cf→FnOk P g cf) {n:Nat} {g:FuncId} {p:zc1} (hg:p.good=true) (hrun:p.runs F n g=true)
 {args:List Value} {h:H} (hfit:p.fits args h=true) {ρ:Rho} {args':Array Value} {w:World} (ra:VRL ρ args args'.toList) (hr:HR P ρ h w):
 Calls P g args' w (zhu P ρ w (.val (p.out h).1 (p.out h).2)):=by
 simp only[zc1.good,qb] at hg;obtain⟨g1,g2,g3,g4,g5,g6,g7⟩:=hg;simp only[zc1.fits,qb] at hfit;obtain⟨f1,f2,f3⟩:=hfit;have f2:=zgH (zl3 4) f2;subst f2;have f1:=qd f1;have g1:=qn g1;have preLt: ∀i,zbu p.pre i=true→i<p.next∧zbu p.post i=true:=fun i hi=>by
  obtain⟨o,ho⟩:=hasId_iff.1 hi;have:=qe.1 g2 _ ho;rw[qb] at this;exact⟨qn this.1,this.2⟩
 have postIn: ∀i,zbu p.post i=true→zbu p.pre i=true∨(p.next≤i∧i<p.next'):=fun i hi=>by
  obtain⟨o,ho⟩:=hasId_iff.1 hi;have:=qe.1 g3 _ ho;rw[qS,qb] at this;exact this.imp id fun h=>⟨qn h.1,qn h.2⟩
 have preGet: ∀i,zbu p.pre i=true→ ∃o,h.get i=some o∧o≠ .dead∧p.start.get i=some o∧refO (zbu p.pre) o=true:=fun i hi=>by
  obtain⟨o,h1,h2⟩:=setAll_in (t:=.nil) hi;have q1:=zlT f3 h1;have q4:=qe.1 g5 _ h1;rw[qb] at q4;exact⟨o,q1,by rintro rfl;exact Bool.false_ne_true q4.1,h2,q4.2⟩
 have preNo: ∀i,zbu p.pre i=false→p.start.get i=none:=fun i hi=>(zlF hi).trans (PT.get_nil _);obtain⟨ρ',hρ'⟩: ∃ρ':Rho,∀i,ρ' i=if zbu p.pre i=true then ρ i else none:=⟨_,fun _=>rfl⟩;have agr: ∀i,zbu p.pre i=true→ρ' i=ρ i:=fun i hi=>by rw[hρ',if_pos hi]
 have sub: ∀i R,ρ' i=some R→zbu p.pre i=true∧ρ i=some R:=fun i R hi=>by
  rw[hρ'] at hi
  split at hi
  ·rename_i hc;exact⟨hc,hi⟩
  ·cases hi
 have hr':HR P ρ' p.start w:={
  obj:=fun i R o hi ho=>by
   obtain⟨hc,hi⟩:=sub i R hi;obtain⟨o',q1,q2,q3,q4⟩:=preGet i hc;have e:o'=o:=qj (q3.symm.trans ho);subst e;exact(hr.obj i R o' hi q1).agree agr q4
  nxt:=fun i hi=>by
   have hi:p.next≤i:=hi;have hc:zbu p.pre i=false:=by
    rw[qO];intro hc;have:=(preLt i hc).1;omega
   exact⟨by rw[hρ',if_neg (by rw[hc];simp)],preNo i hc⟩
  sep:=fun i j R S hi hj _ _ e=>by
   obtain⟨hc,hi⟩:=sub i R hi;obtain⟨hd,hj⟩:=sub j S hj;obtain⟨o,q1,q2,-,-⟩:=preGet i hc;obtain⟨o',r1,r2,-,-⟩:=preGet j hd;exact hr.sep i j R S hi hj ⟨o,q1,q2⟩ ⟨o',r1,r2⟩ e
  blk:=fun i R hi=>hr.blk i R (sub i R hi).2
  glb:=fun i b x hi=>by
   cases hc:zbu p.pre i with
   |false=>rw[preNo i hc] at hi;cases hi
   |true=>
    obtain⟨o',q1,-,q3,-⟩:=preGet i hc;have e:o'=.glob b x:=qj (q3.symm.trans hi);subst e;obtain⟨R,hR⟩:=hr.glb i b x q1;exact⟨R,(agr i hc).trans hR⟩}
 have ra':VRL ρ' p.args args'.toList:=ra.agree agr g4;unfold zc1.runs at hrun;generalize he:E F n (.call (.func (.func g) #[] #[]) p.args p.start)=out at hrun;unfold zc1.ends at hrun
 split at hrun
 ·rename_i v h2;simp only[Bool.and_eq_true] at hrun;obtain⟨e1,e2,e3⟩:=hrun;obtain rfl:=zl3 _ _ _ e1;have e2:=Nat.eq_of_beq_eq_true e2;refine(ziR hmix hF he ra' hr').mono ?_;rintro e w' ⟨v',σ2,rfl,hv,hr2,hx⟩;obtain⟨σ,hσ⟩: ∃σ:Rho,∀i,σ i=if zbu p.post i=true then σ2 i else ρ i:=⟨_,fun _=>rfl⟩;have agr2: ∀i,zbu p.post i=true→σ i=σ2 i:=fun i hi=>by rw[hσ,if_pos hi]
  have oth: ∀i,zbu p.post i=false→σ i=ρ i:=fun i hi=>by rw[hσ,if_neg (by rw[hi];simp)]
  have le:zic ρ σ:=fun i R hi=>by
   cases hc:zbu p.post i with
   |false=>rw[oth i hc];exact hi
   |true=>
    rw[agr2 i hc];rcases postIn i hc with hp| ⟨hp,-⟩
    ·exact hx.le i R ((agr i hp).trans hi)
    ·have:=(hr.nxt i (by omega)).1;rw[hi] at this;cases this
  have postGet: ∀i,zbu p.post i=true→ ∃o,h2.get i=some o∧(p.out h).2.get i=some o∧refO (zbu p.post) o=true:=fun i hi=>by
   obtain⟨o,h1,h3⟩:=setAll_in (t:=h.mem) hi;have q1:=zlT e3 h1;exact⟨o,q1,h3,qe.1 g7 _ h1⟩
  have postNo: ∀i,zbu p.post i=false→(p.out h).2.get i=h.get i:=fun i hi=>zlF hi;have apart: ∀i R j S,zbu p.post i=true→σ2 i=some R→zbu p.post j=false→ρ j=some S→zeP h j→R.blk≠S.blk:=fun i R j S hi hiR hj hjS aj e=>by
   rcases hx.fresh i R hiR with⟨k,T,hk,hT⟩|hb
   ·obtain⟨hc,hk⟩:=sub k T hk;obtain⟨o,q1,q2,-,-⟩:=preGet k hc;have:=hr.sep k j T S hk hjS ⟨o,q1,q2⟩ aj (hT.trans e);subst this;rw[(preLt k hc).2] at hj;cases hj
   ·have:=hr.blk j S hjS;omega
  have hrN:HR P σ (p.out h).2 w':={
   obj:=fun i R o hi ho=>by
    cases hc:zbu p.post i with
    |true=>
     rw[agr2 i hc] at hi;obtain⟨o',q1,q3,q4⟩:=postGet i hc;have e:o'=o:=qj (q3.symm.trans ho);subst e;exact(hr2.obj i R o' hi q1).agree agr2 q4
    |false=>
     rw[oth i hc] at hi;rw[postNo i hc] at ho;by_cases hd:o=.dead
     ·subst hd;trivial
     ·refine(hr.obj i R o hi ho).mono le (hx.frame _ (hr.blk i R hi) fun j S hj e=> ?_);obtain⟨hp,hj⟩:=sub j S hj;obtain⟨o',q1,q2,-,-⟩:=preGet j hp;have:=hr.sep j i S R hj hi ⟨o',q1,q2⟩ ⟨o,ho,hd⟩ e;subst this;rw[(preLt j hp).2] at hc;cases hc
   nxt:=fun i hi=>by
    have hi:p.next'≤i:=hi;have hc:zbu p.post i=false:=by
     rw[qO];intro hc;rcases postIn i hc with hp|hp
     ·have:=(preLt i hp).1;omega
     ·omega
    rw[oth i hc,postNo i hc];exact hr.nxt i (by omega)
   sep:=fun i j R S hi hj ai aj e=>by
    have al: ∀k,zbu p.post k=true→zeP (p.out h).2 k→zeP h2 k:=fun k hk ⟨o,h1,h3⟩=>by
     obtain⟨o',q1,q2,-⟩:=postGet k hk;have e:o'=o:=qj (q2.symm.trans h1);subst e;exact⟨o',q1,h3⟩
    have al': ∀k,zbu p.post k=false→zeP (p.out h).2 k→zeP h k:=fun k hk ⟨o,h1,h3⟩=>⟨o,(postNo k hk).symm.trans h1,h3⟩;cases hc:zbu p.post i with
    |true=>
     rw[agr2 i hc] at hi;cases hd:zbu p.post j with
     |true=>rw[agr2 j hd] at hj;exact hr2.sep i j R S hi hj (al i hc ai) (al j hd aj) e
     |false=>rw[oth j hd] at hj;exact absurd e (apart i R j S hc hi hd hj (al' j hd aj))
    |false=>
     rw[oth i hc] at hi;cases hd:zbu p.post j with
     |true=>rw[agr2 j hd] at hj;exact absurd e.symm (apart j S i R hd hj hc hi (al' i hc ai))
     |false=>rw[oth j hd] at hj;exact hr.sep i j R S hi hj (al' i hc ai) (al' j hd aj) e
   blk:=fun i R hi=>by
    cases hc:zbu p.post i with
    |true=>rw[agr2 i hc] at hi;exact hr2.blk i R hi
    |false=>rw[oth i hc] at hi;exact qk (hr.blk i R hi) hx.size
   glb:=fun i b x hi=>by
    cases hc:zbu p.post i with
    |true=>
     obtain⟨o',q1,q3,-⟩:=postGet i hc;have e:o'=.glob b x:=qj (q3.symm.trans hi);subst e;obtain⟨R,hR⟩:=hr2.glb i b x q1;exact⟨R,(agr2 i hc).trans hR⟩
    |false=>
     rw[postNo i hc] at hi;obtain⟨R,hR⟩:=hr.glb i b x hi;exact⟨R,(oth i hc).trans hR⟩}
  refine⟨_,_,v',σ,rfl,rfl,hv.agree agr2 4 g6,hrN,le,hx.size,fun i R hi=> ?_,fun B hB hn=>hx.frame B hB fun i R hi=>hn i R (sub i R hi).2,hx.loops,hx.os,hx.out,hx.froz,hx.td⟩;cases hc:zbu p.post i with
  |true=>
   rw[agr2 i hc] at hi;rcases hx.fresh i R hi with⟨j,S,hj,e⟩|hb
   ·exact .inl ⟨j,S,(sub j S hj).2,e⟩
   ·exact .inr hb
  |false=>rw[oth i hc] at hi;exact .inl ⟨i,R,hi,rfl⟩
 ·cases hrun
theorem pieces_ok (hmix:P.follows .mixedOrders=true) {g:FuncId} {fn:Func} {cf0:za} (hfn:P.funcs[g]? =some fn) (hcf:z8 P fn=some (zfy cf0))
 {l:List zc1} (hl: ∀p∈l,p.good=true∧ ∃F n,(∀g cf,F g=some cf→FnOk P g cf)∧p.runs F n g=true):FnOk P g (zlj (ze9 l) cf0):=by
 refine .inr (.inr (.inr ⟨_,fn,cf0,rfl,⟨fun args w=> ?_,fun args h v h' hp ρ args' w ra hr=> ?_⟩,hfn,hcf⟩))
 ·obtain⟨hname,c,hbody,-⟩:=zbN hcf;have hne: ¬fn.name= "runtime.NumGoroutine" :=by simpa using hname
  simp[callFunc,hfn,hne,hbody]
 ·induction l with
  |nil=>cases hp
  |cons p l ih=>
   have hp:(match p.fits args h with|true=>some (p.out h)|false=>ze9 l args h)=some (v,h'):=hp
   split at hp
   ·rename_i hfit;obtain⟨q1,F,n,hF,q2⟩:=hl p (by simp);have e:p.out h=(v,h'):=qj hp;have:=piece_calls hmix hF q1 q2 hfit ra hr;rw[e] at this;exact this
   ·exact ih (fun p hp=>hl p (by simp[hp])) hp
def lookE (l:List (Nat×za)) (g:Nat):Option za:=List.rec (motive:=fun _=>Option za) none (fun p _ ih=>match qh p.1 g with|true=>some p.2|false=>ih) l
theorem zhR: ∀{t:List (Nat×za)} {g:Nat} {cf:za},lookE t g=some cf→ ∃p∈t,p.1=g∧p.2=cf
 | [],g,x,h=>by cases h
 |p::t,g,x,h=>by
  have h:(match qh p.1 g with|true=>some p.2|false=>lookE t g)=some x:=h
  split at h
  ·rename_i e;cases h;exact⟨p,by simp,qd e,rfl⟩
  ·obtain⟨q,hq,e⟩:=zhR h;exact⟨q,by simp[hq],e⟩
def overF (l:List (Nat×za)) (F:FuncId→Option za):FuncId→Option za:=fun g=>match lookE l g with
 |some cf=>some cf
 |none=>F g
theorem over_ok {l:List (Nat×za)} {F:FuncId→Option za} (hl: ∀p∈l,FnOk P p.1 p.2) (hF: ∀g cf,F g=some cf→FnOk P g cf): ∀g cf,overF l F g=some cf→FnOk P g cf:=by
 intro g cf h;unfold overF at h
 split at h
 ·rename_i c hc;cases h;obtain⟨p,hp,rfl,rfl⟩:=zhR hc;exact hl p hp
 ·exact hF g cf h
theorem look_ok {l:List (Nat×za)} (hl: ∀p∈l,FnOk P p.1 p.2): ∀g cf,lookE l g=some cf→FnOk P g cf:=fun g cf h=>by
 obtain⟨p,hp,rfl,rfl⟩:=zhR h;exact hl p hp
def endsTrue:Option Out→Bool
 |some (.val (.bool true) _)=>true
 |_=>false
theorem endsTrue_some {o:Option Out} (h:endsTrue o=true): ∃h',o=some (.val (.bool true) h'):=by
 unfold endsTrue at h
 split at h
 ·exact⟨_,rfl⟩
 ·cases h
end
end
end Go.Ideal
namespace Go.Ideal
open Go
variable {P:Program}
def AllC (P:Program) (l:List (Nat×za)):Prop:=l.map (fun x=>(P.funcs[x.1]?).bind (z8 P))=l.map fun x=>some (zfy x.2)
theorem AllC.mem {l:List (Nat×za)} (h:AllC P l): ∀p∈l,∃fn,P.funcs[p.1]? =some fn∧z8 P fn=some (zfy p.2):=by
 unfold AllC at h
 induction l with
 |nil=>intro p hp;cases hp
 |cons x l ih=>
  rw[List.map_cons,List.map_cons,List.cons.injEq] at h;intro p hp;rcases List.mem_cons.1 hp with rfl|hp
  ·cases e:P.funcs[p.1]? with
   |none=>rw[e] at h;cases h.1
   |some fn=>rw[e] at h;exact⟨fn,rfl,h.1⟩
  ·exact ih h.2 p hp
theorem AllC.at {l:List (Nat×za)} (h:AllC P l) {g:Nat} {cf:za} (hg:lookE l g=some cf): ∃fn,P.funcs[g]? =some fn∧z8 P fn=some (zfy cf):=by
 obtain⟨p,hp,rfl,rfl⟩:=zhR hg;exact h.mem p hp
theorem AllC.ok {l:List (Nat×za)} (h:AllC P l): ∀p∈l,FnOk P p.1 p.2:=fun p hp=>.inl (h.mem p hp)
theorem AllC.app {l m:List (Nat×za)} (h:AllC P l) (h2:AllC P m):AllC P (l++m):=by
 unfold AllC at*;rw[qT,qT,h,h2]
theorem AllC.pieces (hmix:P.follows .mixedOrders=true) {l:List (Nat×za)} (h:AllC P l) {g:Nat} {cf:za} (hg:lookE l g=some cf) {ps:List zc1}
 (hl: ∀p∈ps,p.good=true∧ ∃F n,(∀g cf,F g=some cf→FnOk P g cf)∧p.runs F n g=true):FnOk P g (zlj (ze9 ps) cf):=by
 obtain⟨fn,h1,h2⟩:=h.at hg;exact pieces_ok hmix h1 h2 hl
end Go.Ideal
namespace Go.Ideal.Q
noncomputable section
def tab0:List (Nat×za):=[(5,f_E),(13,f_2),(14,f_L),(19,f_7),(20,f_H),(22,f_bu),(23,f_Q),(24,f_u),(25,f_h),(26,f_x),(37,f_z),(38,f_o),(39,f_d),(40,f_a),(41,f_5),(42,f_bL),(43,f_Z),(44,f_c),(45,f_p),(46,f_b),(49,f_bw),(50,f_bp),(51,f_bk),(52,f_Y),(53,f_bF),(54,f_1),(55,f_y),(56,f_D),(57,f_C),(58,f_g)]
def tab1:List (Nat×za):=[(59,f_9),(60,f_bm),(61,f_l),(62,f_br),(63,f_bv),(64,f_bj),(65,f_r),(66,f_S),(67,f_K),(76,f_bq),(79,f_6),(84,f_bb),(85,f_bs),(86,f_bK),(87,f_q),(88,f_bI),(89,f_bJ),(90,f_bi),(91,f_bt),(92,f_bB),(93,f_be),(94,f_by),(95,f_ba),(96,f_bd),(97,f_bx),(98,f_8),(99,f_bn),(100,f_bl),(101,f_I),(102,f_bo)]
def tab2:List (Nat×za):=[(103,f_4),(104,f_W),(105,f_J),(106,f_T),(107,f_R),(108,f_n),(109,f_bh),(110,f_bc),(111,f_m),(112,f_s),(113,f_bD),(114,f_0),(115,f_X),(116,f_v),(117,f_w),(118,f_e),(119,f_bf),(120,f_bg),(121,f_P),(122,f_V),(140,f_G),(151,f_3),(152,f_bH),(153,f_O),(154,f_bE),(155,f_M),(156,f_bC),(157,f_A),(158,f_bz),(159,f_F)]
def tab3:List (Nat×za):=[(160,f_bA),(161,f_U),(172,f_t),(173,f_k),(174,f_j),(175,f_f),(176,f_i)]
def tabC:List (Nat×za):=tab0++tab1++tab2++tab3
def tabF:List (Nat×za):=(10,zix true)::tabC
def F:FuncId→Option za:=lookE tabF
theorem zdO:F n_E=some f_E:=by kernel_rfl
theorem zge:F n_bG=some (zix true):=by kernel_rfl
theorem h_wire_Parcel:F n_2=some f_2:=by kernel_rfl
theorem zfJ:F n_L=some f_L:=by kernel_rfl
theorem h_wire_Open:F n_7=some f_7:=by kernel_rfl
theorem zgJ:F n_H=some f_H:=by kernel_rfl
theorem h_wire_Names:F n_bu=some f_bu:=by kernel_rfl
theorem zgd:F n_Q=some f_Q:=by kernel_rfl
theorem h_wire_Rename:F n_u=some f_u:=by kernel_rfl
theorem zfI:F n_h=some f_h:=by kernel_rfl
theorem zeB:F n_x=some f_x:=by kernel_rfl
theorem h_wire_fine:F n_z=some f_z:=by kernel_rfl
theorem h_wire_bytes:F n_o=some f_o:=by kernel_rfl
theorem zgL:F n_d=some f_d:=by kernel_rfl
theorem zfh:F n_a=some f_a:=by kernel_rfl
theorem zlo:F n_5=some f_5:=by kernel_rfl
theorem zkG:F n_bL=some f_bL:=by kernel_rfl
theorem h_wire_start:F n_Z=some f_Z:=by kernel_rfl
theorem zgg:F n_c=some f_c:=by kernel_rfl
theorem zhe:F n_p=some f_p:=by kernel_rfl
theorem zfF:F n_b=some f_b:=by kernel_rfl
theorem h_wire_proper:F n_bw=some f_bw:=by kernel_rfl
theorem h_wire_letter:F n_bp=some f_bp:=by kernel_rfl
theorem zgb:F n_bk=some f_bk:=by kernel_rfl
theorem zfH:F n_Y=some f_Y:=by kernel_rfl
theorem h_wire_Open_1:F n_bF=some f_bF:=by kernel_rfl
theorem zhi:F n_1=some f_1:=by kernel_rfl
theorem zhh:F n_y=some f_y:=by kernel_rfl
theorem zga:F n_D=some f_D:=by kernel_rfl
theorem zdh:F n_C=some f_C:=by kernel_rfl
theorem zdg:F n_g=some f_g:=by kernel_rfl
theorem h_wire_known:F n_9=some f_9:=by kernel_rfl
theorem h_wire_name:F n_bm=some f_bm:=by kernel_rfl
theorem zcm:F n_l=some f_l:=by kernel_rfl
theorem zkF:F n_br=some f_br:=by kernel_rfl
theorem h_wire_sealed:F n_bv=some f_bv:=by kernel_rfl
theorem h_wire_head:F n_bj=some f_bj:=by kernel_rfl
theorem zf9:F n_r=some f_r:=by kernel_rfl
theorem zgc:F n_S=some f_S:=by kernel_rfl
theorem zfi:F n_K=some f_K:=by kernel_rfl
theorem h_wire_below:F n_bq=some f_bq:=by kernel_rfl
theorem zdN:F n_6=some f_6:=by kernel_rfl
theorem h_wire_once:F n_bb=some f_bb:=by kernel_rfl
theorem zkE:F n_bs=some f_bs:=by kernel_rfl
theorem h_wire_fine_1:F n_bK=some f_bK:=by kernel_rfl
theorem zcU:F n_q=some f_q:=by kernel_rfl
theorem h_wire_fine_2:F n_bI=some f_bI:=by kernel_rfl
theorem h_wire_fine_3:F n_bJ=some f_bJ:=by kernel_rfl
theorem zfE:F n_bi=some f_bi:=by kernel_rfl
theorem zln:F n_bt=some f_bt:=by kernel_rfl
theorem h_wire_fine_4:F n_bB=some f_bB:=by kernel_rfl
theorem zfD:F n_be=some f_be:=by kernel_rfl
theorem h_wire_value:F n_by=some f_by:=by kernel_rfl
theorem zeg:F n_ba=some f_ba:=by kernel_rfl
theorem zeA:F n_bd=some f_bd:=by kernel_rfl
theorem h_wire_write:F n_bx=some f_bx:=by kernel_rfl
theorem zhW:F n_8=some f_8:=by kernel_rfl
theorem zgM:F n_bn=some f_bn:=by kernel_rfl
theorem zfK:F n_bl=some f_bl:=by kernel_rfl
theorem zhg:F n_I=some f_I:=by kernel_rfl
theorem zhX:F n_bo=some f_bo:=by kernel_rfl
theorem zhV:F n_4=some f_4:=by kernel_rfl
theorem zhf:F n_W=some f_W:=by kernel_rfl
theorem zf7:F n_J=some f_J:=by kernel_rfl
theorem zgI:F n_T=some f_T:=by kernel_rfl
theorem zdy:F n_R=some f_R:=by kernel_rfl
theorem zc7:F n_n=some f_n:=by kernel_rfl
theorem zf8:F n_bh=some f_bh:=by kernel_rfl
theorem zfj:F n_bc=some f_bc:=by kernel_rfl
theorem zdf:F n_m=some f_m:=by kernel_rfl
theorem zdz:F n_s=some f_s:=by kernel_rfl
theorem zjj:F n_bD=some f_bD:=by kernel_rfl
theorem h_wire_sum:F n_0=some f_0:=by kernel_rfl
theorem zhj:F n_X=some f_X:=by kernel_rfl
theorem zhY:F n_v=some f_v:=by kernel_rfl
theorem zc8:F n_w=some f_w:=by kernel_rfl
theorem zdA:F n_e=some f_e:=by kernel_rfl
theorem ziK:F n_bf=some f_bf:=by kernel_rfl
theorem h_wire_number:F n_bg=some f_bg:=by kernel_rfl
theorem zgK:F n_P=some f_P:=by kernel_rfl
theorem zfG:F n_V=some f_V:=by kernel_rfl
theorem zfg:F n_G=some f_G:=by kernel_rfl
theorem zcV:F n_3=some f_3:=by kernel_rfl
theorem zjk:F n_bH=some f_bH:=by kernel_rfl
theorem zbG:F n_O=some f_O:=by kernel_rfl
theorem zff:F n_bE=some f_bE:=by kernel_rfl
theorem zbF:F n_M=some f_M:=by kernel_rfl
theorem zfe:F n_bC=some f_bC:=by kernel_rfl
theorem zbo:F n_A=some f_A:=by kernel_rfl
theorem zdM:F n_bz=some f_bz:=by kernel_rfl
theorem zbr:F n_F=some f_F:=by kernel_rfl
theorem zef:F n_bA=some f_bA:=by kernel_rfl
theorem zgf:F n_U=some f_U:=by kernel_rfl
theorem zdx:F n_t=some f_t:=by kernel_rfl
theorem zbX:F n_k=some f_k:=by kernel_rfl
theorem zbW:F n_j=some f_j:=by kernel_rfl
theorem zbv:F n_f=some f_f:=by kernel_rfl
theorem zbB:F n_i=some f_i:=by kernel_rfl
end
end Go.Ideal.Q
namespace Go.Ideal
noncomputable section
@[simp] theorem openCap_le {n:Nat} (h:n<1000000):(n<zc)=True:=eq_true (by unfold zc;omega)
def upS (s:DS):List (Nat×DV)→DS
 | []=>s
 | (q,d)::r=>upS ((bits q,d)::s) r
@[simp] theorem upS_nil (s:DS):upS s []=s:=id rfl
@[simp] theorem upS_cons (s:DS) (q:Nat) (d:DV) (r:List (Nat×DV)):upS s ((q,d)::r)=upS ((bits q,d)::s) r:=id rfl
section
variable {F:FuncId→Option za} {n0:Nat}
theorem zcn.for {σ:Type} {L:List (List Bool)} {b b':CC} {K:KD} {s:DS} {M:VM} (hb:b=b') (U:Nat→σ→List (Nat×DV)) (G:σ→VM) (P:Nat→σ→Prop) (N:Nat) (x0:σ) (hs:s=zbJ L (upS s (U 0 x0))) (hM:M=G x0) (h0:P 0 x0)
 (step: ∀i x,i<N→P i x→(∀x',P (i+1) x'→zcn F n0 L b K (zbJ L (upS s (U (i+1) x'))) (G x'))→ @Cd (rD F n0) (.base (LoK F n0 L b K)) b' (zbJ L (zbJ L (upS s (U i x)))) (G x))
 (last: ∀x,P N x→ @Cd (rD F n0) (.base (LoK F n0 L b K)) b' (zbJ L (zbJ L (upS s (U N x)))) (G x)):zcn F n0 L b K s M:=by
 have main: ∀m i x,i+m=N→P i x→zcn F n0 L b K (zbJ L (upS s (U i x))) (G x):=by
  intro m
  induction m with
  |zero=>intro i x hi hp;obtain rfl:i=N:=by omega
         exact .go hb (last x hp)
  |succ m ih=>intro i x hi hp;exact .go hb (step i x (by omega) hp fun x' hp'=>ih (i+1) x' (by omega) hp')
 have:=main N 0 x0 (by omega) h0;rw[←hs,←hM] at this;exact this
theorem zcn.while {σ:Type} {L:List (List Bool)} {b b':CC} {K:KD} {s:DS} {M:VM} (hb:b=b') (U:σ→List (Nat×DV)) (G:σ→VM) (P:σ→Prop) (m:σ→Nat) (x0:σ) (hs:s=zbJ L (upS s (U x0))) (hM:M=G x0) (h0:P x0)
 (step: ∀x,P x→(∀x',m x'<m x→P x'→zcn F n0 L b K (zbJ L (upS s (U x'))) (G x'))→ @Cd (rD F n0) (.base (LoK F n0 L b K)) b' (zbJ L (zbJ L (upS s (U x)))) (G x)):zcn F n0 L b K s M:=by
 have main: ∀n x,m x<n→P x→zcn F n0 L b K (zbJ L (upS s (U x))) (G x):=by
  intro n
  induction n with
  |zero=>intro x hx;omega
  |succ n ih=>intro x hx hp;exact .go hb (step x hp fun x' hx' hp'=>ih x' (by omega) hp')
 have:=main (m x0+1) x0 (by omega) h0;rw[←hs,←hM] at this;exact this
end
section
variable {F:FuncId→Option za} {n0:Nat} {M:VM}
end
section
variable {B M:VM} {j:Nat} {o:MO}
end
section
variable {B M:VM} {d:DV} {s:Nat} {rows:List (List DV)}
end
section
variable {B M:VM} {d:DV} {s:Nat} {rows:List (List DV)} {X:RnD} {fr:FrC}
end
end
end Go.Ideal
namespace Go.Ideal.S
structure Sv where
 k:Int
 n:Int
 deriving DecidableEq
def numB (n:Nat):List UInt8:=if n<128 then[qf n] else qf (n%128+128)::numB (n / 128)
termination_by n
decreasing_by omega
def zu (l:List Nat):List UInt8:=l.flatMap numB
theorem zdj (n:Nat) (l:List Nat):zu (n::l)=numB n++zu l:=by simp[zu]
theorem numsB_app (l m:List Nat):zu (l++m)=zu l++zu m:=by simp[zu]
theorem zko (l:List Nat) (n:Nat):zu (l++[n])=zu l++numB n:=by simp[zu]
theorem zX (n:Nat) (h:n<128^10):(numB n).length≤10:=by
 have key: ∀k n,n<128^(k+1)→(numB n).length≤k+1:=by
  intro k
  induction k with
  |zero=>intro n h;rw[numB,if_pos (by omega)];simp
  |succ k ih=>
   intro n h;rw[numB]
   split
   ·simp
   ·have:=ih (n / 128) (by rw[Nat.div_lt_iff_lt_mul (by omega)];rw[qK] at h;exact h);simp;omega
 exact key 9 n h
theorem numB_pos (n:Nat):0<(numB n).length:=by
 rw[numB];split<;>simp
def crcB (r:Nat) (top:Bool):Nat:=if top=true then(r*2%65536) ^^^ 4129 else r*2%65536
def crcY (x:Nat):Nat→Nat→Nat
 |0,r=>r
 |k+1,r=>crcY x k (crcB r (decide (r / 32768≠x / 2^k%2)))
def crcN (l:List UInt8):Nat:=l.foldl (fun r x=>crcY x.toNat 8 r) 65535
theorem crcB_lt (r:Nat) (t:Bool):crcB r t<65536:=by
 unfold crcB
 split
 ·exact qL (n:=16) (qU _ (by omega)) (by omega)
 ·exact qU _ (by omega)
theorem crcY_lt (x:Nat): ∀k r,r<65536→crcY x k r<65536
 |0,r,h=>h
 |k+1,r,_=>crcY_lt x k _ (crcB_lt _ _)
theorem crcF_lt (l:List UInt8): ∀r,r<65536→l.foldl (fun r x=>crcY x.toNat 8 r) r<65536:=by
 induction l with
 |nil=>intro r h;exact h
 |cons x l ih=>intro r h;exact ih _ (crcY_lt _ _ _ h)
theorem crcN_lt (l:List UInt8):crcN l<65536:=crcF_lt l _ (by omega)
theorem crcN_app (l:List UInt8) (x:UInt8):crcN (l++[x])=crcY x.toNat 8 (crcN l):=by simp[crcN]
def crc (l:List UInt8):List UInt8:=[qf (crcN l / 256),qf (crcN l%256)]
def sealB (l:List UInt8):List UInt8:=l++crc l
structure WS where
 t:List Sv
 b:List Nat
def WS.num (w:WS) (n:Nat):WS:=⟨w.t,w.b++[n]⟩
def WS.ment (w:WS) (v:Sv):WS:=if v∈w.t then w else⟨w.t++[v],w.b⟩
def WS.ref (w:WS) (v:Sv):WS:=(w.ment v).num (w.t.idxOf v)
def WS.val (w:WS) (v:Sv):WS:=if v.k≠1 then(w.ment v).num (2*w.t.idxOf v+1) else if 0≤v.n then w.num (4*v.n.toNat) else w.num (4*(-v.n - 1).toNat+2)
def WS.vals (w:WS) (l:List Sv):WS:=l.foldl WS.val (w.num l.length)
def zbK (t:List Sv):List Nat:=t.length::t.flatMap fun v=>[v.k.toNat,v.n.toNat]
def WS.fin (w:WS) (first:UInt8):List UInt8:=sealB (first::zu (zbK w.t)++zu w.b)
def plc (n:Int):Sv:=⟨4,n⟩
def chn (n:Int):Sv:=⟨3,n⟩
structure Lt where
 ch:Int
 vs:List Sv
def zb7 (v:Sv):Prop:=(v.k=2∧0≤v.n∧v.n<12)∨(v.k=3∧0≤v.n∧v.n<60)∨(v.k=4∧0≤v.n∧v.n<24)
def ValV (v:Sv):Prop:=zb7 v∨(v.k=1∧ -1000000000≤v.n∧v.n≤1000000000)
def zej (l:Lt):Prop:=(0≤l.ch∧l.ch<60)∧l.vs.length≤3∧ ∀v∈l.vs,ValV v
def encLt (l:Lt):List UInt8:=(((⟨[],[]⟩:WS).ref (chn l.ch)).vals l.vs).fin 77
def getA:Nat→Nat→Nat→List UInt8→Option (Nat×List UInt8)
 |0,_,_,_=>none
 |_+1,_,_,[]=>none
 |f+1,u,a,x::r=>if x.toNat<128 then some (a+x.toNat*u,r) else getA f (u*128) (a+x.toNat%128*u) r
def getN (l:List UInt8):Option (Nat×List UInt8):=getA 5 1 0 l
def zbn (l:List UInt8):Option (Nat×List UInt8):=(getN l).bind fun x=>if x.1≤x.2.length then some x else none
def zT (t:List Sv) (k:Int) (l:List UInt8):Option (Int×List UInt8):=(getN l).bind fun x=>(t[x.1]?).bind fun v=>if v.k=k then some (v.n,x.2) else none
def valN (t:List Sv) (l:List UInt8):Option (Sv×List UInt8):=(getN l).bind fun x=>if x.1%2=1 then(t[x.1 / 2]?).map fun v=>(v,x.2) else if x.1%4=0 then some (⟨1,((x.1 / 4:Nat):Int)⟩,x.2) else some (⟨1,-((x.1 / 4:Nat):Int) - 1⟩,x.2)
def repN {α:Type} (f:List UInt8→Option (α×List UInt8)):Nat→List α→List UInt8→Option (List α×List UInt8)
 |0,a,l=>some (a,l)
 |n+1,a,l=>(f l).bind fun x=>repN f n (a++[x.1]) x.2
def z9 (t:List Sv) (l:List UInt8):Option (List Sv×List UInt8):=(zbn l).bind fun x=>repN (valN t) x.1 [] x.2
def zcS (l:List UInt8):Option (Sv×List UInt8):=(getN l).bind fun x=>(getN x.2).map fun y=>(⟨x.1,y.1⟩,y.2)
def tabN (l:List UInt8):Option (List Sv×List UInt8):=(zbn l).bind fun x=>repN zcS x.1 [] x.2
def zje (b:List UInt8) (first:UInt8):Prop:=3≤b.length∧b.head? =some first∧crc (b.take (b.length - 2))=b.drop (b.length - 2)
open Classical in
noncomputable def zR (b:List UInt8) (first:UInt8):Option (List Sv×List UInt8):=if zje b first then tabN ((b.take (b.length - 2)).drop 1) else none
def ltN (x:List Sv×List UInt8):Option Lt:=(zT x.1 3 x.2).bind fun y=>(z9 x.1 y.2).map fun z=>⟨y.1,z.1⟩
open Classical in
noncomputable def zfY (b:List UInt8):Lt×Int:=if 80000<b.length then(⟨0,[]⟩,3) else match(zR b 77).bind ltN with
 |some x=>if zej x∧encLt x=b then(x,0) else(⟨0,[]⟩,4)
 |none=>(⟨0,[]⟩,4)
theorem getA_lt: ∀(f u a:Nat) (l:List UInt8) (n:Nat) (r:List UInt8),getA f u a l=some (n,r)→a<u→n<u*128^f∧ ∃p,l=p++r∧0<p.length
 |0,_,_,_,_,_,h,_=>by cases h
 |_+1,_,_,[],_,_,h,_=>by cases h
 |f+1,u,a,x::l,n,r,h,ha=>by
  unfold getA at h;have hx:=x.toNat_lt
  split at h
  ·rename_i hlt;cases h;refine⟨?_,[x],rfl,by simp⟩;have h1:a+x.toNat*u<u*128:=by
    have:x.toNat*u≤127*u:=qx _ (by omega);omega
   refine qk h1 ?_;rw[qK];have:1≤128^f:=Nat.pow_pos (by omega)
   calc u*128=u*(1*128):=by omega
    _≤u*(128^f*128):=Nat.mul_le_mul_left _ (qx _ this)
  ·have h1:a+x.toNat%128*u<u*128:=by
    have:x.toNat%128*u≤127*u:=qx _ (by omega);omega
   obtain⟨h2,p,h3,h4⟩:=getA_lt f (u*128) _ l n r h h1;refine⟨?_,x::p,by rw[h3];rfl,by simp⟩;rw[qK,Nat.mul_comm (128^f),←Nat.mul_assoc];exact h2
theorem zkI {l:List UInt8} {n:Nat} {r:List UInt8} (h:getN l=some (n,r)):n<34359738368∧ ∃p,l=p++r∧0<p.length:=getA_lt 5 1 0 l n r h (by omega)
theorem zhG {α:Type} {f:List UInt8→Option (α×List UInt8)}: ∀(n:Nat) (a:List α) (l:List UInt8) (b:List α) (r:List UInt8),repN f n a l=some (b,r)→b.length=a.length+n
 |0,a,l,b,r,h=>by cases h;rfl
 |n+1,a,l,b,r,h=>by
  unfold repN at h;cases hf:f l with
  |none=>rw[hf] at h;cases h
  |some x=>rw[hf] at h;have:=zhG n _ _ b r h;simp at this;omega
theorem zcR {α:Type} {f:List UInt8→Option (α×List UInt8)} (n:Nat) (a:List α) (l:List UInt8):repN f (n+1) a l=(f l).bind fun x=>repN f n (a++[x.1]) x.2:=rfl
theorem zcd {α:Type} {f:List UInt8→Option (α×List UInt8)} {n:Nat} {a:List α} {l:List UInt8} (h:f l=none):repN f (n+1) a l=none:=by rw[zcR,h];rfl
theorem zep {α:Type} {f:List UInt8→Option (α×List UInt8)} {n:Nat} {a:List α} {l:List UInt8} {x:α} {r:List UInt8} (h:f l=some (x,r)):repN f (n+1) a l=repN f n (a++[x]) r:=by rw[zcR,h];rfl
end Go.Ideal.S
set_option maxRecDepth 10000
set_option maxHeartbeats 1000000
namespace Go.Ideal.S
open Go Go.Ideal Q
theorem nx3:(∀(M:VM) (o:MO),(M.new o).next=M.next+1)∧(∀(M:VM) (j:Nat) (o:MO),(M.put j o).next=M.next+1)∧ ∀(M:VM) (j:Nat),(M.del j).next=M.next:=⟨fun _ _=>new_next ..,fun _ _ _=>put_next ..,fun _ _=>del_next ..⟩
theorem bpl {k:DV→VM→Prop} {M M':VM} {d:DV} (hk:k d M) (hb:zJ M.next d:=by simp) (h:SM M.next M M':=by repeat' (first|assumption|exact zx _ _|apply zl|apply zy|apply z6| ((try simp only[nx3]);omega))):Back k M d M':=Back.plain hb h hk
def eSv (v:Sv):List DV:=[I v.k,I v.n]
def eB (b:UInt8):List DV:=[zbY b]
def mkS (l:List UInt8):ByteArray:=⟨⟨l⟩⟩
abbrev St (l:List UInt8):DV:=.str (mkS l)
@[simp] theorem mkS_nil:(⟨#[]⟩:ByteArray)=mkS []:=id rfl
@[simp] theorem mkS_size (l:List UInt8):(mkS l).size=l.length:=id rfl
@[simp] theorem mkS_list (l:List UInt8):(mkS l).data.toList=l:=id rfl
theorem mkS_of (s:ByteArray): ∃l,s=mkS l:=⟨s.data.toList,rfl⟩
@[simp] theorem cells_byte (b:UInt8):zt (zbY b)=[zbY b]:=id rfl
@[simp] theorem isCell_byte (b:UInt8):zj (zbY b)=true:=id rfl
@[simp] theorem t_Sv (v:Sv):zcD 2 (eSv v)=some (eSv v):=by simp[eSv]
@[simp] theorem all_Sv (v:Sv):(∀x,x∈eSv v→zj x=true)=True:=eq_true (by simp[eSv])
@[simp] theorem n_Sv (v:Sv):(eSv v).length=2:=by simp[eSv]
@[simp] theorem n_B (v:UInt8):(eB v).length=1:=by simp[eB]
theorem eq_bytes (l m:List UInt8):z7 l m=decide (l=m):=by
 induction l generalizing m with
 |nil=>cases m<;>simp[z7]
 |cons a l ih=>
  cases m with
  |nil=>simp[z7]
  |cons b m=>
   have e:qh a.toNat b.toNat=decide (a=b):=by
    by_cases h:a=b
    ·subst h;simp
    ·have:a.toNat≠b.toNat:=fun e=>h (UInt8.toNat_inj.1 e);rw[decide_eq_false h];cases e2:Nat.beq a.toNat b.toNat with
     |true=>exact absurd (qd e2) this
     |false=>rfl
   simp[z7,ih,e]
section
variable {ek:EK}
@[simp] theorem bin_seq (l m:List UInt8):binD .eql ek (St l) (St m)=some (.bool (decide (l=m))):=by
  show some (DV.bool (z7 l m))=_;rw[eq_bytes]
@[simp] theorem bin_sne (l m:List UInt8):binD .neq ek (St l) (St m)=some (.bool (!decide (l=m))):=by
  show some (DV.bool (!z7 l m))=_;rw[eq_bytes]
theorem zd9 (l m:List UInt8) (h:l.length+m.length≤1073741824):binD .add ek (St l) (St m)=some (St (l++m)):=by
 show((if Nat.ble (l.length+m.length) 1073741824=true then some (Value.string ⟨⟨l++m⟩⟩) else none).bind dOf1)=_;rw[if_pos (by rw[Nat.ble_eq];exact h)];rfl
theorem zfr (k:IntKind) (a b:Int):binD .neq ek (.int k a) (.int k b)=some (.bool (!decide (a=b))):=by
 show(if k=k then some (Value.bool (!eqI a b)) else none).bind dOf1=_;rw[if_pos rfl,zei];rfl
theorem bin_ltK (k:IntKind) (a b:Int):binD .lss ek (.int k a) (.int k b)=some (.bool (decide (a<b))):=by
 show(if k=k then some (Value.bool (ltI a b)) else none).bind dOf1=_;rw[if_pos rfl,zfA];rfl
end
@[simp] theorem strIdx_at (l:List UInt8) (k:IntKind) (i:Nat):zil (St l) (.int k (i:Int))=(l[i]?).map zbY:=id rfl
@[simp] theorem strIdx_0 (l:List UInt8) (k:IntKind):zil (St l) (.int k 0)=(l[0]?).map zbY:=id rfl
theorem zgv {α:Type}: ∀(n:Nat) (l:List α),n≤l.length→zeT n l=some (l.take n)
 |0,l,_=>by cases l<;>rfl
 |n+1,[],h=>by simp at h
 |n+1,a::l,h=>by
  show((zeT n l).map (a:: ·))=_;rw[zgv n l (by simpa using h)];rfl
theorem zgD {α:Type}: ∀(n:Nat) (l:List α),zcY n l=l.drop n
 |0,l=>by cases l<;>rfl
 |n+1,[]=>rfl
 |n+1,a::l=>zgD n l
theorem zeU (l:List UInt8) (k:IntKind) (a:Nat) (h:a≤l.length):zcb (some (.int k (a:Int))) none (St l)=some (St (l.drop a)):=by
 show((zm (mkS l).size (mkS l).size none).bind fun hi=>(zm 0 hi (some (.int k (a:Int)))).bind fun lo=>(zeT (hi - lo) (zcY lo l)).map fun l=>DV.str ⟨⟨l⟩⟩)=_;show((if a≤l.length then some a else none).bind fun lo=>(zeT (l.length - lo) (zcY lo l)).map fun l=>DV.str ⟨⟨l⟩⟩)=_;rw[if_pos h,qg,zgD,zgv _ _ (by simp),List.take_of_length_le (by simp)];rfl
theorem zeV (l:List UInt8) (k:IntKind) (a:Nat) (h:a≤l.length):zcb none (some (.int k (a:Int))) (St l)=some (St (l.take a)):=by
 show((if a≤l.length then some a else none).bind fun hi=>(zeT (hi - 0) (zcY 0 l)).map fun l=>DV.str ⟨⟨l⟩⟩)=_;rw[if_pos h,qg,zgD,zgv _ _ (by simpa using h)];rfl
theorem zhA (l:List UInt8) (k k':IntKind) (a b:Nat) (h:a≤b) (hb:b≤l.length):zcb (some (.int k (a:Int))) (some (.int k' (b:Int))) (St l)=some (St ((l.take b).drop a)):=by
 show((if b≤l.length then some b else none).bind fun hi=>(if a≤hi then some a else none).bind fun lo=>(zeT (hi - lo) (zcY lo l)).map fun l=>DV.str ⟨⟨l⟩⟩)=_;rw[if_pos hb,qg,if_pos h,qg,zgD,zgv _ _ (by simp;omega),List.drop_take];rfl
theorem zmd: ∀l:List UInt8,allO zhn (l.map eB)=some l
 | []=>rfl
 |b::l=>by
  have hb:zhn (eB b)=some b:=by
   show some (qf b.toNat)=some b;rw[UInt8.ofNat_toNat]
  show((zhn (eB b)).bind fun x=>(allO zhn (l.map eB)).map (x:: ·))=_;rw[hb,zmd l];rfl
theorem zhr {M:VM} {d:DV} {l:List UInt8} (h:zeJ M 1 d=some (l.map eB)):b2sD M d=some (St l):=by
 unfold b2sD;rw[h,qg,zmd];rfl
theorem wrap_u8 (n:Int):IntKind.u8.wrap n=n%256:=by
 show(if(false&&decide (n%(2^8:Int)≥(2^7:Int)))=true then n%(2^8:Int) - (2^8:Int) else n%(2^8:Int))=_;simp
theorem wrap_u16 (n:Int):IntKind.u16.wrap n=n%65536:=by
 show(if(false&&decide (n%(2^16:Int)≥(2^15:Int)))=true then n%(2^16:Int) - (2^16:Int) else n%(2^16:Int))=_;simp
theorem wrap_u64 (n:Int):IntKind.u64.wrap n=n%18446744073709551616:=by
 show(if(false&&decide (n%(2^64:Int)≥(2^63:Int)))=true then n%(2^64:Int) - (2^64:Int) else n%(2^64:Int))=_;simp
theorem wrap_i64 {n:Int} (h1: -9223372036854775808≤n) (h2:n<9223372036854775808):IntKind.i64.wrap n=n:=by rw[←zjo];exact zI h1 h2
@[simp] theorem un_neg (n:Int):unD .neg (I n)=some (I (zih .i64 (0 - n))):=by
  show some (DV.int .i64 (IntKind.i64.wrap (0 - n)))=_;rw[zjo]
theorem zc0 (k:IntKind) (n:Nat):ziP .u8 (.int k (n:Int))=some (zbY (qf n)):=by
 show some (DV.int .u8 (IntKind.u8.wrap n))=some (DV.int .u8 ((qf n).toNat:Int));rw[wrap_u8,qA]
 congr 2
theorem conv_i64 (k:IntKind) (n:Nat) (h:n<9223372036854775808):ziP .i64 (.int k (n:Int))=some (I n):=by
 show some (DV.int .i64 (IntKind.i64.wrap n))=_;rw[wrap_i64 (by omega) (by omega)]
theorem conv_u64 (k:IntKind) (n:Nat) (h:n<9223372036854775808):ziP .u64 (.int k (n:Int))=some (.int .u64 (n:Int)):=by
 show some (DV.int .u64 (IntKind.u64.wrap n))=_;rw[wrap_u64,Int.emod_eq_of_lt (by omega) (by omega)]
theorem conv_u16 (k:IntKind) (n:Nat) (h:n<65536):ziP .u16 (.int k (n:Int))=some (.int .u16 (n:Int)):=by
 show some (DV.int .u16 (IntKind.u16.wrap n))=_;rw[wrap_u16,Int.emod_eq_of_lt (by omega) (by omega)]
section
variable {ek:EK}
theorem zgG (k k':IntKind) (n m:Nat) (hm:m≤k.bits):binD .shr ek (.int k (n:Int)) (.int k' (m:Int))=some (.int k ((n / 2^m:Nat):Int)):=by
 show Option.bind (if ltI (m:Int) 0=true then none else some (Value.int k ((n:Int).fdiv (2^(min (m:Int).toNat k.bits))))) dOf1=_;rw[zfA];simp only[show¬((m:Int)<0) by omega,decide_false,qM,if_false,qg];rw[Int.toNat_natCast,qW hm];show some (DV.int k _)=_
 congr 2
 rw[Int.fdiv_eq_ediv_of_nonneg _ (by exact_mod_cast Nat.zero_le (2^m))]
 norm_cast
theorem bin_shlN (k k':IntKind) (n m:Nat) (hm:m≤k.bits):binD .shl ek (.int k (n:Int)) (.int k' (m:Int))=some (.int k (k.wrap ((n*2^m:Nat):Int))):=by
 show Option.bind (if ltI (m:Int) 0=true then none else some (Value.int k (k.wrap ((n:Int)*2^(min (m:Int).toNat k.bits))))) dOf1=_;rw[zfA];simp only[show¬((m:Int)<0) by omega,decide_false,qM,if_false,qg];rw[Int.toNat_natCast,qW hm];show some (DV.int k _)=_
 congr 3
 all_goals norm_cast
theorem bvN {w m:Nat} (h:m<2^w):(qo w (m:Int)).toNat=m:=by
 rw[BitVec.ofInt_natCast,BitVec.toNat_ofNat,qQ h]
theorem zh9 (k:IntKind) (a b:Nat) (ha:a<2^k.bits) (hb:b<2^k.bits):binD .and ek (.int k (a:Int)) (.int k (b:Int))=some (.int k (k.wrap ((a &&& b:Nat):Int))):=by
 show((if k=k then some (Value.int k (k.wrap (((qo k.bits (a:Int) &&& qo k.bits (b:Int)).toNat:Nat):Int))) else none).bind dOf1)=_;rw[if_pos rfl,BitVec.toNat_and,bvN ha,bvN hb];rfl
theorem bin_orN (k:IntKind) (a b:Nat) (ha:a<2^k.bits) (hb:b<2^k.bits):binD .or ek (.int k (a:Int)) (.int k (b:Int))=some (.int k (k.wrap ((a ||| b:Nat):Int))):=by
 show((if k=k then some (Value.int k (k.wrap (((qo k.bits (a:Int) ||| qo k.bits (b:Int)).toNat:Nat):Int))) else none).bind dOf1)=_;rw[if_pos rfl,BitVec.toNat_or,bvN ha,bvN hb];rfl
theorem bin_xorN (k:IntKind) (a b:Nat) (ha:a<2^k.bits) (hb:b<2^k.bits):binD .xor ek (.int k (a:Int)) (.int k (b:Int))=some (.int k (k.wrap ((a ^^^ b:Nat):Int))):=by
 show((if k=k then some (Value.int k (k.wrap (((qo k.bits (a:Int) ^^^ qo k.bits (b:Int)).toNat:Nat):Int))) else none).bind dOf1)=_;rw[if_pos rfl,BitVec.toNat_xor,bvN ha,bvN hb];rfl
theorem and127 (n:Nat):n &&& 127=n%128:=qy n 7
theorem and1 (n:Nat):n &&& 1=n%2:=qy n 1
theorem and2 (n:Nat):n &&& 2=2*(n / 2%2):=by
 have h:=Nat.and_mod_two_pow (a:=n) (b:=2) (n:=2);have hle:n &&& 2≤2:=Nat.and_le_right;rw[qQ (by omega)] at h;rw[h];have h4:n%4=0∨n%4=1∨n%4=2∨n%4=3:=by omega
 show(n%4) &&& 2=_;rcases h4 with e|e|e|e<;>rw[e]<;>(have:n / 2%2=0∨n / 2%2=1:=by omega)<;>rcases this with q|q<;>rw[q]<;>first|rfl| (exfalso;omega)
theorem or128 {n:Nat} (h:n<128):n ||| 128=n+128:=by
 have:=qB (i:=7) (b:=n) h 1;rw[Nat.or_comm];simp at this;omega
theorem or_add {n a:Nat} (m:Nat) (h:n<2^m):n ||| a*2^m=n+a*2^m:=by
 have:=qB (i:=m) (b:=n) h a;rw[Nat.or_comm,Nat.mul_comm a,←this,Nat.add_comm]
theorem zfp (k:IntKind) (a b:Nat) (hb:b≠0):binD .rem ek (.int k (a:Int)) (.int k (b:Int))=some (.int k ((a%b:Nat):Int)):=by
 show((if k=k then(if eqI (b:Int) 0=true then none else some (Value.int k ((a:Int).tmod b))) else none).bind dOf1)=_;rw[if_pos rfl,zei,if_neg (by simp;omega)];rfl
theorem zfq (a b:Nat) (hb:b≠0) (ha:a<9223372036854775808):binD .quo ek (I a) (I b)=some (I ((a / b:Nat):Int)):=by
 show((if eqI (b:Int) 0=true then none else some (Value.int .i64 (zih .i64 ((a:Int).tdiv b)))).bind dOf1)=_;rw[zei,if_neg (by simp;omega)];have e:((a:Int).tdiv b)=((a / b:Nat):Int):=rfl;have:a / b≤a:=qX _ _;rw[e];generalize a / b=q at*;rw[zI (by omega) (by omega)];rfl
end
def Off (d:DV) (i:Nat):Prop:=match d with
 |.ms j _ _ _=>i≠j
 |_=>True
structure Lb (M:VM) (d:DV) (s:Nat) (rows:List (List DV)):Prop where
 row: ∀r∈rows,r.length=s
 v:(rows=[]∧d=.nilS)∨ ∃j op cap,j<M.next∧d=.ms j 0 rows.length cap∧M.obj j=some (.rows op s rows)∧(op=true∧cap=zc∨op=false∧cap=rows.length∧cap<zc)
structure Gro (M:VM) (d:DV) (M':VM) (d':DV):Prop where
 nx:M.next≤M'.next
 kp: ∀i,i<M.next→Off d i→M'.get i=M.get i
 of: ∀i,i<M.next→Off d i→Off d' i
section
variable {M M' M2:VM} {d d' d2:DV} {s:Nat} {rows:List (List DV)}
theorem Gro.refl (M:VM) (d:DV):Gro M d M d:=⟨qt _,fun _ _ _=>rfl,fun _ _ h=>h⟩
theorem Gro.trans (h:Gro M d M' d') (h2:Gro M' d' M2 d2):Gro M d M2 d2:=⟨Nat.le_trans h.nx h2.nx,fun i hi ho=>(h2.kp i (qk hi h.nx) (h.of i hi ho)).trans (h.kp i hi ho),fun i hi ho=>h2.of i (qk hi h.nx) (h.of i hi ho)⟩
theorem Gro.pre (o:MO) (h:Gro (M.new o) d M' d'):Gro M d M' d':=⟨Nat.le_trans (qu _) h.nx,fun i hi ho=>(h.kp i (qm hi) ho).trans (by rw[get_new,if_neg (by omega)]),fun i hi ho=>h.of i (qm hi) ho⟩
theorem Gro.obj (h:Gro M d M' d') {i:Nat} (hi:i<M.next) (ho:Off d i):M'.obj i=M.obj i:=by
 show(M'.get i).map _=(M.get i).map _;rw[h.kp i hi ho]
theorem Lb.nil (M:VM) (s:Nat):Lb M .nilS s []:=⟨by simp,.inl ⟨rfl,rfl⟩⟩
theorem Lb.keep (h:Lb M d s rows) (hn:M.next≤M2.next) (hk: ∀i,i<M.next→ ¬Off d i→M2.get i=M.get i):Lb M2 d s rows:=⟨h.row,by
 rcases h.v with h1| ⟨j,op,cap,h2,rfl,h4,h5⟩
 ·exact .inl h1
 ·refine .inr ⟨j,op,cap,qk h2 hn,rfl,?_,h5⟩;rw[←h4];show(M2.get j).map _=(M.get j).map _;rw[hk j h2 (fun q=>q rfl)]⟩
theorem Lb.new (h:Lb M d s rows) (o:MO):Lb (M.new o) d s rows:=h.keep (qu _) fun i hi _=>by rw[get_new,if_neg (by omega)]
theorem Lb.put (h:Lb M d s rows) {i:Nat} (hi:Off d i) (o:MO):Lb (M.put i o) d s rows:=h.keep (qu _) fun j hj hn=>by
 rw[get_put,if_neg (fun e=>hn (by rw[e];exact hi))]
theorem Lb.off (h:Lb M d s rows) {i:Nat} {o:MO} (ho:M.obj i=some o) (hne: ∀op,o≠ .rows op s rows):Off d i:=by
 rcases h.v with⟨_,rfl⟩| ⟨j,op,cap,h2,rfl,h4,h5⟩
 ·trivial
 ·intro e;subst e;rw[h4] at ho;cases ho;exact hne op rfl
theorem Lb.cells (h:Lb M d s rows):zt d=[d]:=by
 rcases h.v with⟨_,rfl⟩| ⟨j,_,_,h2,rfl,_⟩<;>rfl
theorem Lb.cell (h:Lb M d s rows):zj d=true:=by
 rcases h.v with⟨_,rfl⟩| ⟨j,_,_,h2,rfl,_⟩<;>rfl
theorem Lb.self (h:Lb M d s rows):zck d=true:=by
 rcases h.v with⟨_,rfl⟩| ⟨j,_,_,h2,rfl,_⟩<;>rfl
theorem Lb.below (h:Lb M d s rows):zJ M.next d:=by
 rcases h.v with⟨_,rfl⟩| ⟨j,_,_,h2,rfl,_⟩
 ·exact .nilS
 ·exact .ms h2
theorem Lb.offN (h:Lb M d s rows) {i:Nat} (hi:M.next≤i):Off d i:=by
 rcases h.v with⟨_,rfl⟩| ⟨j,_,_,h2,rfl,_⟩
 ·trivial
 ·show i≠j;omega
theorem Lb.len (h:Lb M d s rows):lenD M2 d=some rows.length:=by
 rcases h.v with⟨rfl,rfl⟩| ⟨j,_,_,h2,rfl,_⟩<;>rfl
theorem Lb.elems (h:Lb M d s rows) (hs:s≠0):zeJ M s d=some rows:=by
 rcases h.v with⟨rfl,rfl⟩| ⟨j,op,cap,h2,rfl,h4,_⟩
 ·rfl
 ·unfold zeJ;simp[h4]
theorem Lb.appended (h:Lb M d s rows) (hs:s≠0):zbs M s d=some rows:=by
 have:=h.elems hs;rcases h.v with⟨rfl,rfl⟩| ⟨j,op,cap,h2,rfl,h4,_⟩<;>exact this
theorem Lb.app (h:Lb M d s rows) {new:List (List DV)} {bytes:Nat} (hr: ∀r∈new,r.length=s) (hb:(rows.length+new.length)*bytes≤1073741824): ∃d' M',zcN s bytes M new d=some (d',M')∧Lb M' d' s (rows++new)∧Gro M d M' d':=by
 by_cases hn:new=[]
 ·subst hn;refine⟨d,M,?_,by rw[List.append_nil];exact h,.refl _ _⟩;rcases h.v with⟨_,rfl⟩| ⟨j,_,_,h2,rfl,_⟩<;>(unfold zcN;rw[if_pos rfl])
 have hrow: ∀r∈rows++new,r.length=s:=fun r hm=>by
  rcases qR.1 hm with hm|hm
  ·exact h.row r hm
  ·exact hr r hm
 have hnl:0<new.length:=by cases new with|nil=>exact absurd rfl hn|cons=>simp
 rcases h.v with⟨rfl,rfl⟩| ⟨j,op,cap,h2,rfl,h4,h5⟩
 ·refine⟨_,_,by unfold zcN;rw[if_neg hn];dsimp only;rw[if_pos (by simpa using hb)],⟨hrow,.inr ⟨M.next,true,zc,qF _,by simp[zhb],by simp[zhb],.inl ⟨rfl,rfl⟩⟩⟩,qu _,fun i hi _=>by show(M.new _).get i=_;rw[get_new,if_neg (by omega)],fun i hi _=>by show i≠M.next;omega⟩
 ·rcases h5 with⟨rfl,rfl⟩| ⟨rfl,rfl,hc⟩
  ·have e:zcN s bytes M new (.ms j 0 rows.length zc)=some (zhb (M.del j) s (rows++new)):=by
    unfold zcN;rw[if_neg hn];dsimp only;rw[if_pos hb,h4];show zia s M new j 0 rows.length zc (.rows true s rows)=_;unfold zia;dsimp only;rw[if_pos ⟨rfl,by omega⟩,if_pos rfl,if_neg (by omega),qY,qv]
   refine⟨_,_,e,⟨hrow,.inr ⟨M.next,true,zc,qF _,by simp[zhb,VM.del],by simp[zhb,VM.del],.inl ⟨rfl,rfl⟩⟩⟩,qu _,fun i hi ho=> ?_,fun i hi _=>by show i≠M.next;omega⟩;show((M.del j).new _).get i=_;rw[get_new,if_neg (by show i≠M.next;omega),get_del,if_neg ho]
  ·have e:zcN s bytes M new (.ms j 0 rows.length rows.length)=some (zhb M s (rows++new)):=by
    unfold zcN;rw[if_neg hn];dsimp only;rw[if_pos hb,h4];show zia s M new j 0 rows.length rows.length (.rows false s rows)=_;unfold zia;dsimp only;rw[if_pos ⟨rfl,by omega⟩,if_pos hc,if_neg (by omega),qY,qv]
   refine⟨_,_,e,⟨hrow,.inr ⟨M.next,true,zc,qF _,by simp[zhb],by simp[zhb],.inl ⟨rfl,rfl⟩⟩⟩,qu _,fun i hi _=>by show(M.new _).get i=_;rw[get_new,if_neg (by omega)],fun i hi _=>by show i≠M.next;omega⟩
theorem Lb.blt (h:Lb M d s rows) {x:DV} {new:List (List DV)} {bytes:Nat} (hx:zbs M s x=some new) (hs:0<s∧s<roE) (hc: ∀r∈new,∀c∈r,zj c=true) (hr: ∀r∈new,r.length=s) (hb:(rows.length+new.length)*bytes≤1073741824):
 ∃d' M',bltD M (.append s bytes) [d,x]=some (d',M')∧Lb M' d' s (rows++new)∧Gro M d M' d':=by
 obtain⟨d',M',e,h'⟩:=h.app hr hb;exact⟨d',M',by rw[bltD_append,if_pos hs,hx,apN_some,if_pos (by simpa[qe] using hc),e],h'⟩
end
section
variable {M:VM} {d:DV} {s:Nat} {rows:List (List DV)} {X:RnD} {fr:FrC}
theorem zeQ {bytes:Nat} {new:List (List DV)} {x:DV} {dst:Option (List Bool)} {r:List CI} {sl:DS} (h:Lb M d s rows) (hx:zbs M s x=some new) (hs:0<s∧s<roE) (hc: ∀r∈new,∀c∈r,zj c=true) (hr: ∀r∈new,r.length=s) (hb:(rows.length+new.length)*bytes≤1073741824) (k: ∀d' M',Lb M' d' s (rows++new)→Gro M d M' d'→ @Op X fr r (zW dst d' sl) M'): @Rs X fr (bltD M (.append s bytes) [d,x]) dst r sl:=by
 obtain⟨d',M',e,h1,h2⟩:=h.blt hx hs hc hr hb;rw[e];exact k d' M' h1 h2
theorem zg0 {bytes:Nat} {new:List (List DV)} {x:DV} {dst:Option (List Bool)} {l:List CI} {bs:List Mo} {sl:DS} (h:Lb M d s rows) (hx:zbs M s x=some new) (hs:0<s∧s<roE) (hc: ∀r∈new,∀c∈r,zj c=true) (hr: ∀r∈new,r.length=s) (hb:(rows.length+new.length)*bytes≤1073741824) (k: ∀d' M',Lb M' d' s (rows++new)→Gro M d M' d'→ @Dr X fr l (⟨zkq bs,M',[]⟩::bs.map (zcC dst)) (zW dst d' sl) M'): @DrW X fr (bltD M (.append s bytes) [d,x]) dst l bs sl:=by
 obtain⟨d',M',e,h1,h2⟩:=h.blt hx hs hc hr hb;rw[e];exact k d' M' h1 h2
end
theorem c_B (v:UInt8): ∀c∈eB v,zj c=true:=by simp[eB,zbY]
theorem b_Sv {n:Nat} (v:Sv): ∀d∈eSv v,zJ n d:=by simp[eSv]
theorem mapc {α:Type} {f:α→List DV} (h: ∀a,∀c∈f a,zj c=true) (l:List α): ∀r∈l.map f,∀c∈r,zj c=true:=fun r hr c hc=>by
 obtain⟨a,_,rfl⟩:=qN.1 hr;exact h a c hc
theorem mapl {α:Type} {f:α→List DV} {s:Nat} (h: ∀a,(f a).length=s) (l:List α): ∀r∈l.map f,r.length=s:=fun r hr=>by
 obtain⟨a,_,rfl⟩:=qN.1 hr;exact h a
theorem mapb {α:Type} {n:Nat} {f:α→List DV} (h: ∀a,∀d∈f a,zJ n d) (l:List α): ∀r∈l.map f,∀d∈r,zJ n d:=fun r hr=>by
 obtain⟨a,-,rfl⟩:=qN.1 hr;exact h a
end Go.Ideal.S
namespace Go.Ideal.S
open Go Go.Ideal Q Classical
attribute [local simp] decide_eq_true decide_eq_false zI
section
attribute [local simp] c_bg f_bg r_bg_1 r_bg_2 r_bg_3 r_bg_4 r_bg_6
variable {M:VM} {k kp:DV→VM→Prop} {n0:Nat}
theorem num_step {q:Nat} (h:q<2^62): ∃r s t:Nat,(∀ek,binD .and ek (I q) (I 127)=some (I r))∧(∀ek,binD .or ek (I r) (I 128)=some (I s))∧ziP .u8 (I s)=some (zbY (qf (q%128+128)))∧(∀ek,binD .shr ek (I q) (.int .u64 7)=some (I t))∧t=q / 128:=by
 refine⟨q%128,q%128+128,q / 128,fun ek=> ?_,fun ek=> ?_,zc0 _ _,fun ek=>zgG (ek:=ek) .i64 .u64 q 7 (by decide),rfl⟩
 ·have h1:=zh9 (ek:=ek) .i64 q 127 (by show q<2^64;omega) (by show 127<2^64;omega);rw[and127,wrap_i64 (by omega) (by omega)] at h1;exact h1
 ·have h2:=bin_orN (ek:=ek) .i64 (q%128) 128 (by show q%128<2^64;omega) (by show 128<2^64;omega);rw[or128 (by omega),wrap_i64 (by omega) (by omega)] at h2;exact h2
theorem zhN {d:DV} {l:List UInt8} {n:Nat} (h:Lb M d 1 (l.map eB)) (hn:n<2^62) (hl:l.length+(numB n).length≤1000000000) (hk: ∀d' M',Lb M' d' 1 ((l++numB n).map eB)→Gro M d M' d'→k d' M'):ze F (.fn n_bg [] []) [d,I n] M k kp:=by
 refine .fn h_wire_number rfl (by simp[f_bg]) ?_;simp;refine .while (σ:=VM×DV×List UInt8×Nat) c_bg_5.eq_1 (fun z=>[(0,z.2.1),(1,I z.2.2.2)]) (fun z=>z.1) (fun z=>Lb z.1 z.2.1 1 (z.2.2.1.map eB)∧Gro M d z.1 z.2.1∧z.2.2.1++numB z.2.2.2=l++numB n∧z.2.2.2≤n) (fun z=>z.2.2.2) (M,d,l,n) (by simp) rfl ⟨h,.refl _ _,rfl,qt _⟩ (fun z hP again=> ?_);obtain⟨y,e,m,q⟩:=z;obtain⟨p1,p2,p3,p4⟩:=hP;dsimp only at*;have hlen:=congrArg List.length p3;simp only[ql] at hlen;by_cases hq:127<q
 ·obtain⟨r,s,t,c1,c2,c3,c4,ht⟩:=num_step (q:=q) (by omega);have e1:numB q=UInt8.ofNat (q%128+128)::numB (q / 128):=by rw[numB,if_neg (by omega)]
  generalize qf (q%128+128)=b at*;have hqi:(127:Int)<q:=by omega
  simp[hqi,c1,c2,c3];rw[e1] at hlen;simp only[List.length_cons] at hlen;refine zeQ (p1.new _) (new:=[[zbY b]]) (by simp) (by decide) (by simp) (by simp) (by simp;omega) fun d' M' hL hG=> ?_;have again:=again (M',d',m++[b],t) (by dsimp only;omega) ⟨by simpa[eB] using hL,p2.trans hG.pre,by rw[←p3,e1,ht];simp,by dsimp only;omega⟩;simp at again;simp[c4];exact again
 ·have e1:numB q=[UInt8.ofNat q]:=by rw[numB,if_pos (by omega)]
  have hqi: ¬(127:Int)<q:=by omega
  have c3:=zc0 .i64 q;generalize qf q=b at*;simp[hqi,c3];refine zeQ (p1.new _) (new:=[[zbY b]]) (by simp) (by decide) (by simp) (by simp) (by simp;omega) fun d' M' hL hG=> ?_;simp;exact hk d' M' (by rw[←p3,e1];simpa[eB] using hL) (p2.trans hG.pre)
def entF:List Sv→Nat→List (DV×DV)
 | [],_=>[]
 |v::l,n=>(.agg (eSv v),I n)::entF l (n+1)
theorem entF_app: ∀(l m:List Sv) (n:Nat),entF (l++m) n=entF l n++entF m (n+l.length)
 | [],m,n=>by simp[entF]
 |v::l,m,n=>by simp[entF,entF_app l m (n+1),Nat.add_assoc,Nat.add_comm 1]
theorem zcF (v w:Sv):zM (.leaves [0,1]) (.agg (eSv v)) (.agg (eSv w))=some (decide (v=w)):=by
 show(some (eqI v.k w.k)).bind (fun b=>((some (eqI v.n w.n)).bind fun b=>(some true).map fun c=>b&&c).map fun c=>b&&c)=_;rw[zei,zei];show some (decide (v.k=w.k)&&(decide (v.n=w.n)&&true))=_;rw[Bool.and_true]
 congr 1
 by_cases h:v=w
 ·subst h;simp
 ·rw[decide_eq_false h];by_cases h1:v.k=w.k
  ·have:v.n≠w.n:=fun h2=>h (by cases v;cases w;simp at h1 h2;simp[h1,h2]);simp[this]
  ·simp[h1]
theorem find_ent (v:Sv): ∀(l:List Sv) (n:Nat),zeF (.leaves [0,1]) (.agg (eSv v)) (entF l n)=some (if v∈l then some (I ((n+l.idxOf v:Nat):Int)) else none)
 | [],n=>by simp[entF,zeF]
 |w::l,n=>by
  show((zM (.leaves [0,1]) (.agg (eSv v)) (.agg (eSv w))).bind fun b=>match b with|true=>some (some (I n))|false=>zeF (.leaves [0,1]) (.agg (eSv v)) (entF l (n+1)))=_;rw[zcF,qg];by_cases h:v=w
  ·subst h;rw[decide_eq_true rfl];simp
  ·rw[decide_eq_false h];dsimp only;rw[find_ent v l (n+1),List.idxOf_cons,show(w==v)=false from beq_eq_false_iff_ne.2 (fun e=>h e.symm)];by_cases hm:v∈l
   ·rw[if_pos hm,if_pos (qI _ hm)];simp only[cond_false];rw[show n+1+l.idxOf v=n+(l.idxOf v+1) by omega]
   ·rw[if_neg hm,if_neg (by simp;exact⟨h,hm⟩)]
theorem set_ent (v:Sv) (x:DV): ∀(l:List Sv) (n:Nat),v∉l→setD (.leaves [0,1]) (.agg (eSv v)) x (entF l n)=some (entF l n++[(.agg (eSv v),x)])
 | [],n,_=>rfl
 |w::l,n,h=>by
  have h1:v≠w:=fun e=>h (by rw[e];exact List.mem_cons_self);show((zM (.leaves [0,1]) (.agg (eSv v)) (.agg (eSv w))).bind fun s=>match s with
   |true=>if zb2 (zt (.agg (eSv v))) (zt (.agg (eSv w)))=true then some ((.agg (eSv v),x)::entF l (n+1)) else none
   |false=>(setD (.leaves [0,1]) (.agg (eSv v)) x (entF l (n+1))).map fun y=>(.agg (eSv w),I n)::y)=_
  rw[zcF,qg,decide_eq_false h1];dsimp only;rw[set_ent v x l (n+1) (fun q=>h (qI _ q))];rfl
structure Base where
 m:VM
 fr:Nat→Prop
abbrev bas (M:VM):Base:=⟨M,fun i=>i<M.next⟩
structure WrE (B:Base) (M:VM) (j:Nat) (t:List Sv) (b:List UInt8) (dn:DV) (jm:Nat) (db:DV):Prop where
 sm: ∀i,B.fr i→M.get i=B.m.get i
 nx: ∀i,B.fr i→i<M.next
 j1: ¬B.fr j
 j2:j<M.next
 m1: ¬B.fr jm
 m2:jm<M.next
 oj:M.obj j=some (.rows false 3 [[dn,.map jm,db]])
 om:M.obj jm=some (.map (entF t 0))
 ln:Lb M dn 2 (t.map eSv)
 lb:Lb M db 1 (b.map eB)
 fn: ∀i,B.fr i→Off dn i∧Off db i
def WrM (B:Base) (M:VM) (j:Nat) (t:List Sv) (b:List UInt8):Prop:= ∃dn jm db,WrE B M j t b dn jm db
section
variable {B:Base} {M':VM} {j jm:Nat} {t:List Sv} {b:List UInt8} {dn db:DV}
theorem WrE.new (h:WrE B M j t b dn jm db) (o:MO):WrE B (M.new o) j t b dn jm db:=
 ⟨fun i hi=>by rw[get_new,if_neg (by have:=h.nx i hi;omega)];exact h.sm i hi,fun i hi=>qm (h.nx i hi),h.j1,qm h.j2,h.m1,qm h.m2,by rw[zbl _ h.j2];exact h.oj,by rw[zbl _ h.m2];exact h.om,h.ln.new o,h.lb.new o,h.fn⟩
theorem WrE.jm_ne (h:WrE B M j t b dn jm db):jm≠j:=fun e=>by have:=h.om;rw[e,h.oj] at this;cases this
theorem WrE.nj (h:WrE B M j t b dn jm db):Off dn j:=h.ln.off h.oj (fun op e=>by cases e)
theorem WrE.nm (h:WrE B M j t b dn jm db):Off dn jm:=h.ln.off h.om (fun op e=>by cases e)
theorem WrE.bj (h:WrE B M j t b dn jm db):Off db j:=h.lb.off h.oj (fun op e=>by cases e)
theorem WrE.bm (h:WrE B M j t b dn jm db):Off db jm:=h.lb.off h.om (fun op e=>by cases e)
theorem WrE.fj (h:WrE B M j t b dn jm db) {i:Nat} (hi:B.fr i):i≠j:=fun e=>h.j1 (by rw[←e];exact hi)
theorem WrE.fm (h:WrE B M j t b dn jm db) {i:Nat} (hi:B.fr i):i≠jm:=fun e=>h.m1 (by rw[←e];exact hi)
theorem WrE.body (h:WrE B M j t b dn jm db) {db':DV} {b':List UInt8} (hL:Lb M' db' 1 (b'.map eB)) (hG:Gro M db M' db'):WrE B (M'.put j (.rows false 3 [[dn,.map jm,db']])) j t b' dn jm db':=by
 have hnx:=hG.nx;have c:=h.j2;have f:=h.m2;have hbj:=h.bj;have hbm:=h.bm;refine⟨fun i hi=>by rw[get_put,if_neg (h.fj hi)];exact(hG.kp i (h.nx i hi) (h.fn i hi).2).trans (h.sm i hi),fun i hi=>by have:=h.nx i hi;simp;omega,h.j1,by simp;omega,h.m1,by simp;omega,by simp,?_,?_,?_,fun i hi=>⟨(h.fn i hi).1,hG.of i (h.nx i hi) (h.fn i hi).2⟩⟩
 ·rw[zbb,if_neg h.jm_ne,hG.obj f hbm];exact h.om
 ·refine(h.ln.keep (M2:=M') hnx fun i hi hn=>hG.kp i hi ?_).put h.nj _;rcases h.lb.v with⟨_,e2⟩| ⟨q,op,cap,q1,e2,q2,_⟩
  ·rw[e2];trivial
  ·rw[e2];intro e3;subst e3;refine hn (h.ln.off q2 fun op e=> ?_);injection e with _ e4;cases e4
 ·exact hL.put (hG.of j c hbj) _
theorem WrE.table (h:WrE B M j t b dn jm db) {dn':DV} {v:Sv} (hv:v∉t) (hL:Lb M' dn' 2 ((t++[v]).map eSv)) (hG:Gro M dn M' dn'):WrE B ((M'.put j (.rows false 3 [[dn',.map jm,db]])).put jm (.map (entF (t++[v]) 0))) j (t++[v]) b dn' jm db:=by
 have hnx:=hG.nx;have c:=h.j2;have f:=h.m2;have hne:=h.jm_ne;refine⟨fun i hi=>by rw[get_put,if_neg (h.fm hi),get_put,if_neg (h.fj hi)];exact(hG.kp i (h.nx i hi) (h.fn i hi).1).trans (h.sm i hi),fun i hi=>by have:=h.nx i hi;simp;omega,h.j1,by simp;omega,h.m1,by simp;omega,?_,by simp,?_,?_,fun i hi=>⟨hG.of i (h.nx i hi) (h.fn i hi).1,(h.fn i hi).2⟩⟩
 ·rw[zbb,if_neg (fun e=>hne e.symm),zbb,if_pos rfl]
 ·exact(hL.put (hG.of j c h.nj) _).put (hG.of jm f h.nm) _
 ·refine((h.lb.keep (M2:=M') hnx fun i hi hn=>hG.kp i hi ?_).put h.bj _).put h.bm _;rcases h.ln.v with⟨_,e2⟩| ⟨q,op,cap,q1,e2,q2,_⟩
  ·rw[e2];trivial
  ·rw[e2];intro e3;subst e3;refine hn (h.lb.off q2 fun op e=> ?_);injection e with _ e4;cases e4
def zcH (t:List Sv) (v:Sv):List Sv:=if v∈t then t else t++[v]
attribute [local simp] c_U f_U r_U_1 r_U_2 r_U_3 r_U_4 r_U_5 r_U_6 r_U_7
theorem ziC (h:WrM B M j t b) (v:Sv) (ht:t.length≤10000000) (hk: ∀M',WrM B M' j (zcH t v) b→k (I ((t.idxOf v:Nat):Int)) M'):ze F (.fn n_U [] []) [.ptr j 0 0,.agg (eSv v)] M k kp:=by
 obtain⟨dn,jm,db,h⟩:=h;have a:=h.j2;have c:=h.m2;have o1:=h.oj;have o2:=h.om;have hf:=find_ent v t 0;rw[qJ] at hf;have hl:lkE (.leaves [0,1]) (I 0) true (.agg (eSv v)) (some (entF t 0))=some (zbA (I 0) true (if v∈t then some (I ((t.idxOf v:Nat):Int)) else none)):=by
  show(match zM (.leaves [0,1]) (.agg (eSv v)) (.agg (eSv v)) with|some _=>(zeF (.leaves [0,1]) (.agg (eSv v)) (entF t 0)).map (zbA (I 0) true)|none=>none)=_;rw[zcF,hf];rfl
 refine .fn zgf rfl (by simp[f_U]) ?_;by_cases hv:v∈t
 ·rw[if_pos hv] at hl;have hk:=hk (M.new (.rows false 2 [eSv v])) ⟨dn,jm,db,by unfold zcH;rw[if_pos hv];exact h.new _⟩;generalize ((t.idxOf v:Nat):Int)=ix at*;simp(disch:=((try simp only[nx3]);omega)) [o1,o2,hl,zbA];exact hk
 ·rw[if_neg hv] at hl;have e0:t.idxOf v=t.length:=List.idxOf_eq_length hv;rw[e0] at hk;have hs:=set_ent v (I (t.length:Int)) t 0 hv;simp(disch:=((try simp only[nx3]);omega)) [o1,o2,hl,zbA,h.ln.len];refine zg0 ((h.ln.new _).new _) (new:=[eSv v]) (by simp) (by decide) (by simp) (by simp) (by simp;omega) fun d' M' hL hG=> ?_;have hG2:=hG.pre.pre;have nx:=hG2.nx;have p1:M'.obj j=some (.rows false 3 [[dn,.map jm,db]]):=by rw[hG2.obj a h.nj];exact o1
  have p2:M'.obj jm=some (.map (entF t 0)):=by rw[hG2.obj c h.nm];exact o2
  have p3:M'.obj M.next=some (.rows false 2 [eSv v]):=by rw[hG.pre.obj (by simp) (by rcases h.ln.v with⟨_,e⟩| ⟨q,_,_,q1,e,_⟩<;>rw[e]<;>first|trivial| (show M.next≠q;omega))];simp
  have hne:=h.jm_ne;have hk:=hk _ ⟨_,_,_,by unfold zcH;rw[if_neg hv];exact h.table hv (by simpa using hL) hG2⟩;have a2:j<M'.next:=by omega
  have a3:M.next≠j:=by omega
  have a4:j≠jm:=fun e=>hne e.symm;rw[entF_app] at hk;simp[entF] at hk;have a5:M.next≠jm:=by omega
  have c1:=hL.cells;have c2:=hL.cell;have hu: ∀y:VM,y.obj jm=some (.map (entF t 0))→updD (.leaves [0,1]) y (.agg (eSv v)) (I (t.length:Int)) (.map jm)=some (y.put jm (.map (entF t 0++[(.agg (eSv v),I (t.length:Int))]))):=fun y hy=>by
   show(y.obj jm).bind _=_;rw[hy];show(zM (.leaves [0,1]) (.agg (eSv v)) (.agg (eSv v))).bind (fun _=>(setD (.leaves [0,1]) (.agg (eSv v)) (I (t.length:Int)) (entF t 0)).map fun es=>y.put jm (.map es))=_;rw[zcF,hs];rfl
  have hu:=hu (M'.put j (.rows false 3 [[d',.map jm,db]])) (by rw[zbb,if_neg hne];exact p2);simp(disch:=((try simp only[nx3]);omega)) [p1,p2,p3,a2,a3,a4,a5,hne,hu,c1,c2];exact hk
attribute [local simp] c_8 f_8 r_8_1
theorem wnum_ok (h:WrM B M j t b) (n:Nat) (hn:n<2^62) (hl:b.length+(numB n).length≤1000000000) (hk: ∀M',WrM B M' j t (b++numB n)→k (.tup []) M'):ze F (.fn n_8 [] []) [.ptr j 0 0,I n] M k kp:=by
 obtain⟨dn,jm,db,h⟩:=h;have a:=h.j2;have c:=h.m2;have o1:=h.oj;have o2:=h.om;refine .fn zhW rfl (by simp[f_8]) ?_;simp(disch:=((try simp only[nx3]);omega)) [o1];refine zhN h.lb hn hl fun d' M' hL hG=> ?_;have p1:M'.obj j=some (.rows false 3 [[dn,.map jm,db]]):=by rw[hG.obj a h.bj];exact o1
 have hk:=hk _ ⟨_,_,_,h.body hL hG⟩;have c1:=hL.cells;have c2:=hL.cell;simp(disch:=((try simp only[nx3]);omega)) [p1,c1,c2];exact hk
attribute [local simp] c_bl f_bl r_bl_1 c_bn f_bn r_bn_1
theorem wchan_ok (h:WrM B M j t b) (n:Int) (ht:t.length≤10000000) (hl:b.length≤900000000) (hk: ∀M',WrM B M' j (zcH t (chn n)) (b++numB (t.idxOf (chn n)))→k (.tup []) M'):ze F (.fn n_bl [] []) [.ptr j 0 0,I n] M k kp:=by
 have hi:t.idxOf (chn n)≤t.length:=qp;have hp:(2:Nat)^62=4611686018427387904:=by decide
 have hq:=zX (t.idxOf (chn n)) (by omega);refine .fn zfK rfl (by simp[f_bl]) ?_;simp(disch:=((try simp only[nx3]);omega));refine ziC h (chn n) ht fun M' h'=> ?_;simp(disch:=((try simp only[nx3]);omega));refine wnum_ok h' _ (by omega) (by omega) fun M2 h2=> ?_;simp(disch:=((try simp only[nx3]);omega));exact hk M2 h2
theorem wplace_ok (h:WrM B M j t b) (n:Int) (ht:t.length≤10000000) (hl:b.length≤900000000) (hk: ∀M',WrM B M' j (zcH t (plc n)) (b++numB (t.idxOf (plc n)))→k (.tup []) M'):ze F (.fn n_bn [] []) [.ptr j 0 0,I n] M k kp:=by
 have hi:t.idxOf (plc n)≤t.length:=qp;have hp:(2:Nat)^62=4611686018427387904:=by decide
 have hq:=zX (t.idxOf (plc n)) (by omega);refine .fn zgM rfl (by simp[f_bn]) ?_;simp(disch:=((try simp only[nx3]);omega));refine ziC h (plc n) ht fun M' h'=> ?_;simp(disch:=((try simp only[nx3]);omega));refine wnum_ok h' _ (by omega) (by omega) fun M2 h2=> ?_;simp(disch:=((try simp only[nx3]);omega));exact hk M2 h2
end
end
section
variable {B:Base} {M M':VM} {k kp:DV→VM→Prop} {n0 j:Nat}
theorem Lb.keepA {M M2:VM} {d:DV} {s:Nat} {rows:List (List DV)} (h:Lb M d s rows) (hn:M.next≤M2.next) (hk: ∀i,i<M.next→M2.get i=M.get i):Lb M2 d s rows:=h.keep hn fun i hi _=>hk i hi
theorem WrE.keep {t:List Sv} {b:List UInt8} {dn db:DV} {jm:Nat} (h:WrE B M j t b dn jm db) (hn:M.next≤M'.next) (hk: ∀i,i<M.next→M'.get i=M.get i):WrE B M' j t b dn jm db:=by
 have a:=h.j2;have c:=h.m2;refine⟨fun i hi=>(hk i (h.nx i hi)).trans (h.sm i hi),fun i hi=>by have:=h.nx i hi;omega,h.j1,by omega,h.m1,by omega,?_,?_,h.ln.keepA hn hk,h.lb.keepA hn hk,h.fn⟩
 ·rw[←h.oj];show(M'.get j).map _=(M.get j).map _;rw[hk j a]
 ·rw[←h.om];show(M'.get jm).map _=(M.get jm).map _;rw[hk jm c]
def WrS (B:Base) (M:VM) (j:Nat) (w:WS):Prop:=WrM B M j w.t (zu w.b)
theorem WrS.add {w:WS} (h:WrS B M j w) (o o':MO):WrS ⟨(M.new o).put M.next o',fun i=>B.fr i∨i=M.next⟩ ((M.new o).put M.next o') j w:=by
 obtain⟨dn,jm,db,h⟩:=h;have h2:=h.keep (M':=(M.new o).put M.next o') (by simp;omega) fun q hq=>by rw[get_put,if_neg (by omega),get_new,if_neg (by omega)]
 have a:=h.j2;have c:=h.m2;refine⟨dn,jm,db,fun _ _=>rfl,fun i hi=> ?_,fun hi=> ?_,h2.j2,fun hi=> ?_,h2.m2,h2.oj,h2.om,h2.ln,h2.lb,fun i hi=> ?_⟩
 ·rcases hi with hi|hi
  ·have:=h.nx i hi;simp;omega
  ·simp;omega
 ·rcases hi with hi|hi
  ·exact h.j1 hi
  ·omega
 ·rcases hi with hi|hi
  ·exact h.m1 hi
  ·omega
 ·rcases hi with hi|hi
  ·exact h.fn i hi
  ·rw[hi];exact⟨h.ln.offN (qt _),h.lb.offN (qt _)⟩
theorem WrS.rebase {B2:Base} {w:WS} (h:WrS B2 M j w) (hf: ∀i,B.fr i→B2.fr i∧B2.m.get i=B.m.get i):WrS B M j w:=by
 obtain⟨dn,jm,db,h⟩:=h;exact⟨dn,jm,db,fun i hi=>(h.sm i (hf i hi).1).trans (hf i hi).2,fun i hi=>h.nx i (hf i hi).1,fun hi=>h.j1 (hf _ hi).1,h.j2,fun hi=>h.m1 (hf _ hi).1,h.m2,h.oj,h.om,h.ln,h.lb,fun i hi=>h.fn i (hf i hi).1⟩
theorem WrS.sm {w:WS} (h:WrS B M j w) {i:Nat} (hi:B.fr i):M.get i=B.m.get i:=by
 obtain⟨_,_,_,h⟩:=h;exact h.sm i hi
theorem WrS.obj {w:WS} (h:WrS B M j w) {i:Nat} (hi:B.fr i):M.obj i=B.m.obj i:=by
 show(M.get i).map _=(B.m.get i).map _;rw[h.sm hi]
theorem WrS.keep {w:WS} (h:WrS B M j w) (hn:M.next≤M'.next) (hk: ∀i,i<M.next→M'.get i=M.get i):WrS B M' j w:=by
 obtain⟨dn,jm,db,h⟩:=h;exact⟨dn,jm,db,h.keep hn hk⟩
theorem ment_t (w:WS) (v:Sv):(w.ment v).t=zcH w.t v:=by unfold WS.ment zcH;split<;>rfl
theorem zgP (w:WS) (v:Sv):(w.ment v).b=w.b:=by unfold WS.ment;split<;>rfl
theorem zku (t:List Sv) (v:Sv):(zcH t v).length≤t.length+1:=by unfold zcH;split<;>simp
theorem num_t (w:WS) (n:Nat):(w.num n).t=w.t:=rfl
theorem num_b (w:WS) (n:Nat):zu (w.num n).b=zu w.b++numB n:=zko _ _
theorem ref_t (w:WS) (v:Sv):(w.ref v).t=zcH w.t v:=ment_t w v
theorem ref_b (w:WS) (v:Sv):zu (w.ref v).b=zu w.b++numB (w.t.idxOf v):=by
 show zu ((w.ment v).b++[_])=_;rw[zko,zgP]
theorem zed {w:WS} (h:WrS B M j w) (n:Nat) (hn:n<2^62) (hl:(zu w.b).length≤900000000) (hk: ∀M',WrS B M' j (w.num n)→k (.tup []) M'):ze F (.fn n_8 [] []) [.ptr j 0 0,I n] M k kp:=by
 have hp:(2:Nat)^62=4611686018427387904:=by decide
 have hq:=zX n (by omega);refine wnum_ok h n hn (by omega) fun M' h'=>hk M' ?_;unfold WrS;rw[num_b,num_t];exact h'
theorem schan_ok {w:WS} (h:WrS B M j w) (n:Int) (ht:w.t.length≤10000000) (hl:(zu w.b).length≤900000000) (hk: ∀M',WrS B M' j (w.ref (chn n))→k (.tup []) M'):ze F (.fn n_bl [] []) [.ptr j 0 0,I n] M k kp:=
 wchan_ok h n ht hl fun M' h'=>hk M' (by unfold WrS;rw[ref_b,ref_t];exact h')
theorem splace_ok {w:WS} (h:WrS B M j w) (n:Int) (ht:w.t.length≤10000000) (hl:(zu w.b).length≤900000000) (hk: ∀M',WrS B M' j (w.ref (plc n))→k (.tup []) M'):ze F (.fn n_bn [] []) [.ptr j 0 0,I n] M k kp:=
 wplace_ok h n ht hl fun M' h'=>hk M' (by unfold WrS;rw[ref_b,ref_t];exact h')
theorem zlu:(2:Nat)^62=4611686018427387904:=by decide
theorem big1:(128:Nat)^10=1180591620717411303424:=by decide
theorem val_len {w:WS} {v:Sv} (hv:ValV v) (ht:w.t.length≤10000000):(w.val v).t.length≤w.t.length+1∧(zu (w.val v).b).length≤(zu w.b).length+10:=by
 have hi:w.t.idxOf v≤w.t.length:=qp;have b1:=big1;have hr: -1000000000≤v.n∧v.n≤1000000000:=by
  rcases hv with(h|h|h)|h<;>omega
 unfold WS.val
 split
 ·have:=zX (2*w.t.idxOf v+1) (by omega);rw[num_t,num_b,ment_t,zgP,ql];have:=zku w.t v;exact⟨by omega,by omega⟩
 ·split
  ·have:=zX (4*v.n.toNat) (by omega);rw[num_t,num_b,ql];exact⟨by omega,by omega⟩
  ·have:=zX (4*(-v.n - 1).toNat+2) (by omega);rw[num_t,num_b,ql];exact⟨by omega,by omega⟩
attribute [local simp] c_I f_I r_I_1 r_I_2 r_I_3 r_I_4 r_I_5 r_I_6 r_I_7 r_I_8 r_I_9 r_I_10
theorem svals_ok {w:WS} (h:WrS B M j w) (l:List Sv) (hv: ∀v∈l,ValV v) (ht:w.t.length+l.length≤10000000) (hb:(zu w.b).length+10*(l.length+1)≤900000000) (hk: ∀M',WrS B M' j (w.vals l)→k (.tup []) M'):ze F (.fn n_I [] []) [.ptr j 0 0,.lst 2 (l.map eSv)] M k kp:=by
 have b0:=zlu;have b1:=big1;refine .fn zhg rfl (by simp[f_I]) ?_;simp(disch:=((try simp only[nx3]);omega));refine zed h l.length (by omega) (by omega) fun M1 h1=> ?_;have hn1:=zX l.length (by omega);simp(disch:=((try simp only[nx3]);omega));refine .for (σ:=VM) c_I_11.eq_1 (fun i _=>[(12,I i)]) (fun z=>z) (fun i z=>WrS B z j ((l.take i).foldl WS.val (w.num l.length))∧((l.take i).foldl WS.val (w.num l.length)).t.length≤w.t.length+i∧(zu ((l.take i).foldl WS.val (w.num l.length)).b).length≤(zu w.b).length+10+10*i) l.length M1 (by simp) rfl ⟨h1,by rw[qZ];exact qt _,by rw[qZ];show(zu (w.num l.length).b).length≤_;rw[num_b,ql];omega⟩ (fun i y hi hP again=> ?_) (fun y hP=> ?_)
 ·obtain⟨p1,p2,p3⟩:=hP;have hvi:=hv _ (List.getElem_mem hi);rw[qw hi,List.foldl_append] at again;simp only[List.foldl_cons,List.foldl_nil] at again;have hle:=val_len (w:=(l.take i).foldl WS.val (w.num l.length)) hvi (by omega);generalize (l.take i).foldl WS.val (w.num l.length)=u at*;generalize hx:l[i]=v at*;have hr: -1000000000≤v.n∧v.n≤1000000000:=by
   rcases hvi with(h|h|h)|h<;>omega
  have p1': ∀o,WrS B ((y.new (.rows false 2 [[.int .i64 0,.int .i64 0]])).put y.next o) j u:=fun o=>p1.keep (by simp;omega) fun q hq=>by rw[get_put,if_neg (by omega),get_new,if_neg (by omega)]
  by_cases hk1:v.k=1
  ·by_cases hn0:0≤v.n
   ·obtain⟨n,hn⟩:=Int.eq_ofNat_of_zero_le hn0;have e:u.val v=u.num (4*n):=by unfold WS.val;rw[if_neg (fun x=>x hk1),if_pos hn0,hn];rfl
    rw[e] at again hle;simp(disch:=((try simp only[nx3]);omega)) [hi,hx,eSv,hk1,hn0];have e4:4*v.n=((4*n:Nat):Int):=by omega
    rw[e4];refine zed (p1' _) (4*n) (by omega) (by omega) fun M2 h2=> ?_;have again:=again M2 ⟨h2,by omega,by omega⟩;simp at again;simp(disch:=((try simp only[nx3]);omega));exact again
   ·obtain⟨n,hn⟩:=Int.eq_ofNat_of_zero_le (show 0≤ -v.n - 1 by omega);have e:u.val v=u.num (4*n+2):=by unfold WS.val;rw[if_neg (fun x=>x hk1),if_neg hn0,hn];rfl
    rw[e] at again hle;simp(disch:=((try simp only[nx3]);omega)) [hi,hx,eSv,hk1,hn0];have e4:4*(-v.n - 1)+2=((4*n+2:Nat):Int):=by omega
    rw[e4];refine zed (p1' _) (4*n+2) (by omega) (by omega) fun M2 h2=> ?_;have again:=again M2 ⟨h2,by omega,by omega⟩;simp at again;simp(disch:=((try simp only[nx3]);omega));exact again
  ·have e:u.val v=(u.ment v).num (2*u.t.idxOf v+1):=by unfold WS.val;rw[if_pos hk1]
   have hix:u.t.idxOf v≤u.t.length:=qp;have hml:=zku u.t v;have hmt:=ment_t u v;have hmb:=zgP u v;rw[e] at again hle;simp(disch:=((try simp only[nx3]);omega)) [hi,hx,eSv,hk1];refine ziC (p1' _) v (by omega) fun M1 h1=> ?_;have h1:WrS B M1 j (u.ment v):=by unfold WrS;rw[hmt,hmb];exact h1
   generalize u.t.idxOf v=ix at*;simp(disch:=((try simp only[nx3]);omega));have e4:2*(ix:Int)+1=((2*ix+1:Nat):Int):=by omega
   rw[e4];refine zed h1 (2*ix+1) (by omega) (by rw[hmb];omega) fun M2 h2=> ?_;have again:=again M2 ⟨h2,by omega,by omega⟩;simp at again;simp(disch:=((try simp only[nx3]);omega));exact again
 ·skip
  rw[qv] at hP;simp(disch:=((try simp only[nx3]);omega));exact hk y hP.1
end
section
variable {M M' B:VM} {k kp:DV→VM→Prop} {n0 j:Nat}
structure BV (M:VM) (d:DV) (l:List UInt8):Prop where
 len:lenD M d=some l.length
 at_: ∀i (hi:i<l.length),∃p,ziT 1 M (I (i:Int)) d=some p∧ld1 (zcG M p)=some (zbY l[i])
theorem BV.bs (M:VM) (l:List UInt8):BV M (.bs (mkS l)) l:=⟨rfl,fun i hi=>⟨.pl 1 (l.map eB) i 0,by rw[addrD_bsN,if_pos (by simpa using hi)];rfl,by simp[hi,eB]⟩⟩
theorem BV.lb {d:DV} {l:List UInt8} (h:Lb M d 1 (l.map eB)):BV M d l:=⟨by rw[h.len,List.length_map],fun i hi=>by
 rcases h.v with⟨e,_⟩| ⟨q,op,cap,h2,e,h4,_⟩
 ·have:=congrArg List.length e;simp at this;subst this;simp at hi
 ·subst e;refine⟨.ptr q (0+i) 0,?_,?_⟩
  ·simp[h4,hi]
  ·simp[h4,hi,eB]⟩
theorem bit_step {r x m:Nat} (hr:r<65536) (hx:x<256) (hm:m<8): ∃a b c e f:Nat,(∀ek,binD .shr ek (.int .u16 (r:Int)) (.int .u64 15)=some (.int .u16 (a:Int)))∧(∀ek,binD .shr ek (.int .u8 (x:Int)) (I (7 - (m:Int)))=some (.int .u8 (b:Int)))∧(∀ek,binD .and ek (.int .u8 (b:Int)) (.int .u8 1)=some (.int .u8 (c:Int)))∧ziP .u16 (.int .u8 (c:Int))=some (.int .u16 (c:Int))∧(∀ek,binD .shl ek (.int .u16 (r:Int)) (.int .u64 1)=some (.int .u16 (e:Int)))∧(∀ek,binD .xor ek (.int .u16 (e:Int)) (.int .u16 4129)=some (.int .u16 (f:Int)))∧a=r / 32768∧c=x / 2^(7 - m)%2∧e=r*2%65536∧f=e ^^^ 4129:=by
 have hb:x / 2^(7 - m)<256:=Nat.lt_of_le_of_lt (qX _ _) hx;have hf:(r*2%65536) ^^^ 4129<65536:=qL (n:=16) (qU _ (by omega)) (by omega);refine⟨r / 32768,x / 2^(7 - m),x / 2^(7 - m)%2,r*2%65536,(r*2%65536) ^^^ 4129,fun ek=>zgG .u16 .u64 r 15 (by decide),fun ek=> ?_,fun ek=> ?_,conv_u16 _ _ (by omega),fun ek=> ?_,fun ek=> ?_,rfl,rfl,rfl,rfl⟩
 ·rw[show(7 - (m:Int))=((7 - m:Nat):Int) by omega];exact zgG .u8 .i64 x (7 - m) (by show 7 - m≤8;omega)
 ·generalize x / 2^(7 - m)=b at*;have:=zh9 (ek:=ek) .u8 b 1 (by show b<2^8;omega) (by show 1<2^8;omega);rw[and1,wrap_u8] at this;rw[show(1:Int)=((1:Nat):Int) from rfl,this]
  congr 2;omega
 ·have:=bin_shlN (ek:=ek) .u16 .u64 r 1 (by decide);rw[wrap_u16] at this;rw[show(1:Int)=((1:Nat):Int) from rfl,this]
  congr 2
 ·have:=bin_xorN (ek:=ek) .u16 (r*2%65536) 4129 (by show _<2^16;omega) (by show 4129<2^16;omega);rw[wrap_u16] at this;rw[show(4129:Int)=((4129:Nat):Int) from rfl,this];generalize (r*2%65536) ^^^ 4129=f at*
  congr 2;omega
attribute [local simp] c_0 f_0 r_0_1 r_0_2 r_0_3 r_0_4 r_0_5 r_0_6 r_0_7 r_0_8 r_0_9 r_0_10 r_0_11 r_0_12 r_0_13 r_0_15 r_0_17
theorem sum_ok {d:DV} {l:List UInt8} (h:BV M d l) (hl:l.length<4611686018427387904) (hk:k (.ms M.next 0 2 2) (M.new (.rows false 1 ((crc l).map eB)))):ze F (.fn n_0 [] []) [d] M k kp:=by
 refine .fn h_wire_sum rfl (by simp[f_0]) ?_;simp(disch:=((try simp only[nx3]);omega)) [h.len];refine .for (σ:=Nat) c_0_16.eq_1 (fun i r=>[(3,.int .u16 (r:Int)),(10,I i)]) (fun _=>M) (fun i r=>r=crcN (l.take i)) l.length 65535 (by simp) rfl rfl (fun i r hi hP again=> ?_) (fun r hP=> ?_)
 ·obtain⟨p,hp1,hp2⟩:=h.at_ i hi;have hr:r<65536:=by rw[hP];exact crcN_lt _
  have again:=again (crcY l[i].toNat 8 r) (by rw[qw hi,crcN_app,hP]);have hx:l[i].toNat<256:=l[i].toNat_lt;have hb:zbY l[i]=.int .u8 (l[i].toNat:Int):=rfl;generalize l[i].toNat=x at*;simp at again;simp(disch:=((try simp only[nx3]);omega)) [hi,hp1,hp2];rw[hb];refine .for (σ:=Nat) c_0_14.eq_1 (fun q r=>[(3,.int .u16 (r:Int)),(14,I q)]) (fun _=>M) (fun q s=>s<65536∧crcY x (8 - q) s=crcY x 8 r) 8 r (by simp) rfl ⟨hr,rfl⟩ (fun q s hq hP2 again2=> ?_) (fun s hP2=> ?_)
  ·obtain⟨q1,q2⟩:=hP2;obtain⟨a,b,c,e,f,s1,s2,s3,s4,s5,s6,s7,s8,s9,s10⟩:=bit_step q1 hx hq;have e8:8 - q=(7 - q)+1:=by omega
   rw[e8,crcY] at q2;have hcl:=crcB_lt s (decide (s / 32768≠x / 2^(7 - q)%2));have again2:=again2 (crcB s (decide (s / 32768≠x / 2^(7 - q)%2))) ⟨hcl,by rw[show 8 - (q+1)=7 - q by omega];exact q2⟩;rw[←s7,←s8] at again2;have s11:=fun ek=>zfr (ek:=ek) .u16 (a:Int) (c:Int);have hqi:(q:Int)<8:=by omega
   by_cases hac:a=c
   ·have e1:crcB s (decide (a≠c))=e:=by unfold crcB;rw[if_neg (by simp[hac]),s9]
    rw[e1] at again2;have hac2:(a:Int)=c:=by omega
    simp at again2;simp(disch:=((try simp only[nx3]);omega)) [hqi,s1,s2,s3,s4,s5,s6,zfr,hac2];exact again2
   ·have e1:crcB s (decide (a≠c))=f:=by unfold crcB;rw[if_pos (by simp[hac]),s10,s9]
    rw[e1] at again2;have hac2: ¬(a:Int)=c:=by omega
    simp at again2;simp(disch:=((try simp only[nx3]);omega)) [hqi,s1,s2,s3,s4,s5,s6,zfr,hac2];exact again2
  ·obtain⟨q1,q2⟩:=hP2;have q2:s=crcY x 8 r:=q2;subst q2;simp(disch:=((try simp only[nx3]);omega));exact again
 ·rw[List.take_length] at hP;have hr:r<65536:=by rw[hP];exact crcN_lt _
  have s1: ∀ek,binD .shr ek (.int .u16 (r:Int)) (.int .u64 8)=some (.int .u16 ((r / 2^8:Nat):Int)):=fun ek=>zgG (ek:=ek) .u16 .u64 r 8 (by decide);have s2:=zc0 .u16 (r / 2^8);have s3:=zc0 .u16 r;have e2:crc l=[qf (r / 2^8),qf r]:=by
   unfold crc;rw[←hP]
   congr 2
   refine qV.1 ?_;rw[qA,qA];omega
  rw[e2] at hk;generalize r / 2^8=a at*;generalize qf a=b1 at*;generalize qf r=b2 at*;simp(disch:=((try simp only[nx3]);omega)) [s1,s2,s3];exact hk
end
end Go.Ideal.S
