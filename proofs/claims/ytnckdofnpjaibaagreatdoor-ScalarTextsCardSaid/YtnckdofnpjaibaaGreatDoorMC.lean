/- What is proved: facts by program on types and code, for rewriting. What is proved: nothing new; rules for rewriting are gathered. Conditions: none. -/
import Derived.Test.YtnckdofnpjaibaaGreatDoorMK
import Derived.Test.YtnckdofnpjaibaaGreatDoorMT3
set_option linter.unusedSimpArgs false
set_option linter.unusedVariables false
namespace Go.Ab
open Go Go.Proofs
set_option maxRecDepth 100000
@[go_sem] theorem K_P : K.P = Tryz.prog := rfl
@[go_sem] theorem K_bT : K.bT = 132 := rfl
abbrev CallT (n : Nat) (f : Func) : Prop := ∀ (args : List AV) (h : Heap), R K (.call n args h) = R K (.run n h.length [.code (f.body.getD .skip)] (entry 0 args) h)
theorem ret_of {f m k : Nat} {fr : Fr} {h : Heap} {fn : Func} {rs : List ResultVar} (h1 : Tryz.prog.funcs[f]? = some fn) (h2 : fn.results.toList = rs) (h3 : K.ret f = m) : retOf K f k fr h = leaving m k h (resL Tryz.prog fr h rs) := by
  unfold retOf
  rw [K_P, h1, ← h2, ← h3]
@[go_sem] theorem ar_122 : ar Tryz.prog 122 = some (6, 3, 1) := rfl
@[go_sem] theorem ar_130 : ar Tryz.prog 130 = none := rfl
@[go_sem] theorem ar_137 : ar Tryz.prog 137 = none := rfl
@[go_sem] theorem ar_172 : ar Tryz.prog 172 = some (2, 3, 1) := rfl
@[go_sem] theorem ar_173 : ar Tryz.prog 173 = none := rfl
@[go_sem] theorem ar_177 : ar Tryz.prog 177 = none := rfl
@[go_sem] theorem ar_33 : ar Tryz.prog 33 = none := rfl
@[go_sem] theorem ar_40 : ar Tryz.prog 40 = none := rfl
@[go_sem] theorem ar_45 : ar Tryz.prog 45 = none := rfl
@[go_sem] theorem ar_47 : ar Tryz.prog 47 = none := rfl
@[go_sem] theorem ar_48 : ar Tryz.prog 48 = none := rfl
@[go_sem] theorem ar_82 : ar Tryz.prog 82 = some (3, 23, 3) := rfl
@[go_sem] theorem ar_9 : ar Tryz.prog 9 = none := rfl
@[go_sem] theorem ck_116 : ck Tryz.prog 116 = .iface := by kernel_rfl
@[go_sem] theorem ck_189 : ck Tryz.prog 189 = .no := by kernel_rfl
@[go_sem] theorem ck_23 : ck Tryz.prog 23 = .flat [.int, .int, .str] := by kernel_rfl
@[go_sem] theorem ck_24 : ck Tryz.prog 24 = .no := by kernel_rfl
@[go_sem] theorem ck_3 : ck Tryz.prog 3 = .no := by kernel_rfl
@[go_sem] theorem ck_4 : ck Tryz.prog 4 = .bool := by kernel_rfl
@[go_sem] theorem ck_5 : ck Tryz.prog 5 = .no := by kernel_rfl
@[go_sem] theorem ck_9 : ck Tryz.prog 9 = .no := by kernel_rfl
@[go_sem] theorem cv_21_9 : cvOf Tryz.prog 21 9 = .str := rfl
@[go_sem] theorem cv_3_189 : cvOf Tryz.prog 3 189 = .int .u64 := rfl
@[go_sem] theorem cv_3_21 : cvOf Tryz.prog 3 21 = .int .i32 := rfl
@[go_sem] theorem cv_5_21 : cvOf Tryz.prog 5 21 = .int .i32 := rfl
@[go_sem] theorem cv_5_9 : cvOf Tryz.prog 5 9 = .str := rfl
@[go_sem] theorem cv_9_130 : cvOf Tryz.prog 9 130 = .bytes := rfl
@[go_sem] theorem el_130 : elT Tryz.prog 130 = some (5) := rfl
@[go_sem] theorem es_122 : es Tryz.prog 122 = none := rfl
@[go_sem] theorem es_130 : es Tryz.prog 130 = some (1, 1) := rfl
@[go_sem] theorem es_137 : es Tryz.prog 137 = some (1, 1) := rfl
@[go_sem] theorem es_172 : es Tryz.prog 172 = none := rfl
@[go_sem] theorem es_173 : es Tryz.prog 173 = some (2, 16) := rfl
@[go_sem] theorem es_177 : es Tryz.prog 177 = some (3, 3) := rfl
@[go_sem] theorem es_182 : es Tryz.prog 182 = none := rfl
@[go_sem] theorem es_3 : es Tryz.prog 3 = none := rfl
@[go_sem] theorem es_33 : es Tryz.prog 33 = some (3, 32) := rfl
@[go_sem] theorem es_40 : es Tryz.prog 40 = some (1, 8) := rfl
@[go_sem] theorem es_45 : es Tryz.prog 45 = some (1, 16) := rfl
@[go_sem] theorem es_47 : es Tryz.prog 47 = some (3, 40) := rfl
@[go_sem] theorem es_48 : es Tryz.prog 48 = some (13, 192) := rfl
@[go_sem] theorem es_49 : es Tryz.prog 49 = some (10, 192) := rfl
@[go_sem] theorem es_50 : es Tryz.prog 50 = some (15, 200) := rfl
@[go_sem] theorem es_82 : es Tryz.prog 82 = none := rfl
@[go_sem] theorem es_9 : es Tryz.prog 9 = none := rfl
@[go_sem] theorem ez_130 : elemZero Tryz.prog 130 = some (.int .u8 0) := rfl
@[go_sem] theorem ez_137 : elemZero Tryz.prog 137 = some (.bool false) := rfl
@[go_sem] theorem fo_101_0 : fo Tryz.prog 101 0 = some (0, 47) := rfl
@[go_sem] theorem fo_101_1 : fo Tryz.prog 101 1 = some (1, 40) := rfl
@[go_sem] theorem fo_104_0 : fo Tryz.prog 104 0 = some (0, 47) := rfl
@[go_sem] theorem fo_104_1 : fo Tryz.prog 104 1 = some (1, 33) := rfl
@[go_sem] theorem fo_104_2 : fo Tryz.prog 104 2 = some (2, 33) := rfl
@[go_sem] theorem fo_132_1 : fo Tryz.prog 132 1 = some (1, 130) := rfl
@[go_sem] theorem fo_163_0 : fo Tryz.prog 163 0 = some (0, 9) := rfl
@[go_sem] theorem fo_163_1 : fo Tryz.prog 163 1 = some (1, 4) := rfl
@[go_sem] theorem fo_163_2 : fo Tryz.prog 163 2 = some (2, 4) := rfl
@[go_sem] theorem fo_179_0 : fo Tryz.prog 179 0 = some (0, 5) := rfl
@[go_sem] theorem fo_179_1 : fo Tryz.prog 179 1 = some (1, 4) := rfl
@[go_sem] theorem fo_179_2 : fo Tryz.prog 179 2 = some (2, 4) := rfl
@[go_sem] theorem fo_23_0 : fo Tryz.prog 23 0 = some (0, 3) := rfl
@[go_sem] theorem fo_23_1 : fo Tryz.prog 23 1 = some (1, 3) := rfl
@[go_sem] theorem fo_23_2 : fo Tryz.prog 23 2 = some (2, 9) := rfl
@[go_sem] theorem fo_43_0 : fo Tryz.prog 43 0 = some (0, 40) := rfl
@[go_sem] theorem fo_43_1 : fo Tryz.prog 43 1 = some (1, 3) := rfl
@[go_sem] theorem fo_52_0 : fo Tryz.prog 52 0 = some (0, 3) := rfl
@[go_sem] theorem fo_52_1 : fo Tryz.prog 52 1 = some (1, 3) := rfl
@[go_sem] theorem fo_52_10 : fo Tryz.prog 52 10 = some (12, 50) := rfl
@[go_sem] theorem fo_52_2 : fo Tryz.prog 52 2 = some (2, 3) := rfl
@[go_sem] theorem fo_52_3 : fo Tryz.prog 52 3 = some (3, 23) := rfl
@[go_sem] theorem fo_52_4 : fo Tryz.prog 52 4 = some (6, 9) := rfl
@[go_sem] theorem fo_52_5 : fo Tryz.prog 52 5 = some (7, 9) := rfl
@[go_sem] theorem fo_52_6 : fo Tryz.prog 52 6 = some (8, 4) := rfl
@[go_sem] theorem fo_52_7 : fo Tryz.prog 52 7 = some (9, 48) := rfl
@[go_sem] theorem fo_52_8 : fo Tryz.prog 52 8 = some (10, 49) := rfl
@[go_sem] theorem fo_52_9 : fo Tryz.prog 52 9 = some (11, 48) := rfl
@[go_sem] theorem fo_56_0 : fo Tryz.prog 56 0 = some (0, 9) := rfl
@[go_sem] theorem fo_56_1 : fo Tryz.prog 56 1 = some (1, 9) := rfl
@[go_sem] theorem fo_56_2 : fo Tryz.prog 56 2 = some (2, 3) := rfl
@[go_sem] theorem kk_87 : kkOf Tryz.prog 87 = some (.int, 4) := rfl
@[go_sem] theorem plc_101 : plc Tryz.prog 101 = some (.fields [(0, 1), (1, 1)]) := rfl
@[go_sem] theorem plc_104 : plc Tryz.prog 104 = some (.fields [(0, 1), (1, 1), (2, 1)]) := rfl
@[go_sem] theorem plc_122 : plc Tryz.prog 122 = some (.elems 1) := rfl
@[go_sem] theorem plc_163 : plc Tryz.prog 163 = some (.fields [(0, 1), (1, 1), (2, 1)]) := rfl
@[go_sem] theorem plc_172 : plc Tryz.prog 172 = some (.elems 1) := rfl
@[go_sem] theorem plc_179 : plc Tryz.prog 179 = some (.fields [(0, 1), (1, 1), (2, 1)]) := rfl
@[go_sem] theorem plc_23 : plc Tryz.prog 23 = some (.fields [(0, 1), (1, 1), (2, 1)]) := rfl
@[go_sem] theorem plc_43 : plc Tryz.prog 43 = some (.fields [(0, 1), (1, 1)]) := rfl
@[go_sem] theorem plc_52 : plc Tryz.prog 52 = some (.fields [(0, 1), (1, 1), (2, 1), (3, 3), (6, 1), (7, 1), (8, 1), (9, 1), (10, 1), (11, 1), (12, 1)]) := rfl
@[go_sem] theorem plc_56 : plc Tryz.prog 56 = some (.fields [(0, 1), (1, 1), (2, 1)]) := rfl
@[go_sem] theorem sh_101 : sh Tryz.prog 101 = some (.agg 2) := rfl
@[go_sem] theorem sh_104 : sh Tryz.prog 104 = some (.agg 3) := rfl
@[go_sem] theorem sh_122 : sh Tryz.prog 122 = some (.agg 6) := rfl
@[go_sem] theorem sh_130 : sh Tryz.prog 130 = some .one := rfl
@[go_sem] theorem sh_172 : sh Tryz.prog 172 = some (.agg 2) := rfl
@[go_sem] theorem sh_177 : sh Tryz.prog 177 = some .one := rfl
@[go_sem] theorem sh_179 : sh Tryz.prog 179 = some (.agg 3) := rfl
@[go_sem] theorem sh_23 : sh Tryz.prog 23 = some (.agg 3) := rfl
@[go_sem] theorem sh_3 : sh Tryz.prog 3 = some .one := rfl
@[go_sem] theorem sh_33 : sh Tryz.prog 33 = some .one := rfl
@[go_sem] theorem sh_4 : sh Tryz.prog 4 = some .one := rfl
@[go_sem] theorem sh_40 : sh Tryz.prog 40 = some .one := rfl
@[go_sem] theorem sh_41 : sh Tryz.prog 41 = some .one := rfl
@[go_sem] theorem sh_47 : sh Tryz.prog 47 = some .one := rfl
@[go_sem] theorem sh_48 : sh Tryz.prog 48 = some .one := rfl
@[go_sem] theorem sh_49 : sh Tryz.prog 49 = some .one := rfl
@[go_sem] theorem sh_5 : sh Tryz.prog 5 = some .one := rfl
@[go_sem] theorem sh_50 : sh Tryz.prog 50 = some .one := rfl
@[go_sem] theorem sh_52 : sh Tryz.prog 52 = some (.agg 13) := rfl
@[go_sem] theorem sh_56 : sh Tryz.prog 56 = some (.agg 3) := rfl
@[go_sem] theorem sh_9 : sh Tryz.prog 9 = some .one := rfl
@[go_sem] theorem sz_122 : szOf Tryz.prog 122 = some (6) := rfl
@[go_sem] theorem sz_130 : szOf Tryz.prog 130 = some (1) := rfl
@[go_sem] theorem sz_172 : szOf Tryz.prog 172 = some (2) := rfl
@[go_sem] theorem sz_177 : szOf Tryz.prog 177 = some (1) := rfl
@[go_sem] theorem sz_179 : szOf Tryz.prog 179 = some (3) := rfl
@[go_sem] theorem sz_23 : szOf Tryz.prog 23 = some (3) := rfl
@[go_sem] theorem sz_3 : szOf Tryz.prog 3 = some (1) := rfl
@[go_sem] theorem sz_4 : szOf Tryz.prog 4 = some (1) := rfl
@[go_sem] theorem sz_48 : szOf Tryz.prog 48 = some (1) := rfl
@[go_sem] theorem sz_52 : szOf Tryz.prog 52 = some (13) := rfl
@[go_sem] theorem sz_56 : szOf Tryz.prog 56 = some (3) := rfl
@[go_sem] theorem sz_9 : szOf Tryz.prog 9 = some (1) := rfl
@[go_sem] theorem tk_122 : tk Tryz.prog 122 = .arr 6 := rfl
@[go_sem] theorem tk_130 : tk Tryz.prog 130 = .slice 1 1 := rfl
@[go_sem] theorem tk_137 : tk Tryz.prog 137 = .slice 1 1 := rfl
@[go_sem] theorem tk_173 : tk Tryz.prog 173 = .slice 2 16 := rfl
@[go_sem] theorem tk_177 : tk Tryz.prog 177 = .slice 3 3 := rfl
@[go_sem] theorem tk_182 : tk Tryz.prog 182 = .other := rfl
@[go_sem] theorem tk_3 : tk Tryz.prog 3 = .other := rfl
@[go_sem] theorem tk_33 : tk Tryz.prog 33 = .slice 3 32 := rfl
@[go_sem] theorem tk_40 : tk Tryz.prog 40 = .slice 1 8 := rfl
@[go_sem] theorem tk_45 : tk Tryz.prog 45 = .slice 1 16 := rfl
@[go_sem] theorem tk_47 : tk Tryz.prog 47 = .slice 3 40 := rfl
@[go_sem] theorem tk_48 : tk Tryz.prog 48 = .slice 13 192 := rfl
@[go_sem] theorem tk_49 : tk Tryz.prog 49 = .slice 10 192 := rfl
@[go_sem] theorem tk_50 : tk Tryz.prog 50 = .slice 15 200 := rfl
@[go_sem] theorem tk_9 : tk Tryz.prog 9 = .str := rfl
@[go_sem] theorem zv_101 : zv Tryz.prog 101 = some (.agg [.nils, .nils]) := rfl
@[go_sem] theorem zv_104 : zv Tryz.prog 104 = some (.agg [.nils, .nils, .nils]) := rfl
@[go_sem] theorem zv_122 : zv Tryz.prog 122 = some (.agg [.int .i64 0, .int .i64 0, .int .i64 0, .int .i64 0, .int .i64 0, .int .i64 0]) := rfl
@[go_sem] theorem zv_132 : zv Tryz.prog 132 = some (.agg [.nilp, .nils]) := rfl
@[go_sem] theorem zv_163 : zv Tryz.prog 163 = some (.agg [.str [], .bool false, .bool false]) := rfl
@[go_sem] theorem zv_172 : zv Tryz.prog 172 = some (.agg [.int .i64 0, .int .i64 0]) := rfl
@[go_sem] theorem zv_177 : zv Tryz.prog 177 = some (.nils) := rfl
@[go_sem] theorem zv_179 : zv Tryz.prog 179 = some (.agg [.int .u8 0, .bool false, .bool false]) := rfl
@[go_sem] theorem zv_23 : zv Tryz.prog 23 = some (.agg [.int .i64 0, .int .i64 0, .str []]) := rfl
@[go_sem] theorem zv_3 : zv Tryz.prog 3 = some (.int .i64 0) := rfl
@[go_sem] theorem zv_43 : zv Tryz.prog 43 = some (.agg [.nils, .int .i64 0]) := rfl
@[go_sem] theorem zv_52 : zv Tryz.prog 52 = some (.agg [.int .i64 0, .int .i64 0, .int .i64 0, .int .i64 0, .int .i64 0, .str [], .str [], .str [], .bool false, .nils, .nils, .nils, .nils]) := rfl
@[go_sem] theorem zv_56 : zv Tryz.prog 56 = some (.agg [.str [], .str [], .int .i64 0]) := rfl
@[go_sem] theorem zv_82 : zv Tryz.prog 82 = some (.agg [.int .i64 0, .int .i64 0, .str [], .int .i64 0, .int .i64 0, .str [], .int .i64 0, .int .i64 0, .str []]) := rfl
@[go_sem] theorem zv_4 : zv Tryz.prog 4 = some (.bool false) := rfl
@[go_sem] theorem dyn_3_5 : K.dyn 3 5 = [] := rfl
@[go_sem] theorem live_4_0 : K.live 4 0 = some ([1, 2, 5], [], []) := rfl
@[go_sem] theorem out_4_0 : K.out 4 0 = some [1, 2] := rfl
@[go_sem] theorem live_4_1 : K.live 4 1 = none := rfl
@[go_sem] theorem out_4_1 : K.out 4 1 = none := rfl
@[go_sem] theorem dyn_4_4 : K.dyn 4 4 = [] := rfl
@[go_sem] theorem dyn_4_6 : K.dyn 4 6 = [] := rfl
@[go_sem] theorem live_8_0 : K.live 8 0 = some ([4, 5, 7, 8, 9, 17, 18], [], []) := rfl
@[go_sem] theorem out_8_0 : K.out 8 0 = some [4, 5, 8, 9] := rfl
@[go_sem] theorem live_8_1 : K.live 8 1 = none := rfl
@[go_sem] theorem out_8_1 : K.out 8 1 = none := rfl
@[go_sem] theorem dyn_8_10 : K.dyn 8 10 = [] := rfl
@[go_sem] theorem live_9_0 : K.live 9 0 = some ([3, 4, 5, 6, 7, 24, 25, 26], [(7, none, 3, false)], []) := rfl
@[go_sem] theorem out_9_0 : K.out 9 0 = some [3, 4, 5, 6, 7] := rfl
@[go_sem] theorem live_9_1 : K.live 9 1 = none := rfl
@[go_sem] theorem out_9_1 : K.out 9 1 = none := rfl
@[go_sem] theorem live_10_0 : K.live 10 0 = some ([3, 9, 49, 50], [], []) := rfl
@[go_sem] theorem out_10_0 : K.out 10 0 = some [9] := rfl
@[go_sem] theorem live_10_1 : K.live 10 1 = none := rfl
@[go_sem] theorem out_10_1 : K.out 10 1 = none := rfl
@[go_sem] theorem dyn_10_14 : K.dyn 10 14 = [] := rfl
@[go_sem] theorem live_12_0 : K.live 12 0 = some ([0, 2, 7, 8, 9], [], []) := rfl
@[go_sem] theorem out_12_0 : K.out 12 0 = some [2] := rfl
@[go_sem] theorem live_12_1 : K.live 12 1 = none := rfl
@[go_sem] theorem out_12_1 : K.out 12 1 = none := rfl
@[go_sem] theorem live_13_0 : K.live 13 0 = none := rfl
@[go_sem] theorem out_13_0 : K.out 13 0 = none := rfl
@[go_sem] theorem live_14_0 : K.live 14 0 = none := rfl
@[go_sem] theorem out_14_0 : K.out 14 0 = none := rfl
@[go_sem] theorem live_16_0 : K.live 16 0 = none := rfl
@[go_sem] theorem out_16_0 : K.out 16 0 = none := rfl
@[go_sem] theorem live_17_0 : K.live 17 0 = none := rfl
@[go_sem] theorem out_17_0 : K.out 17 0 = none := rfl
@[go_sem] theorem live_17_1 : K.live 17 1 = some ([1, 2, 4, 43, 44, 45], [], []) := rfl
@[go_sem] theorem out_17_1 : K.out 17 1 = some [4] := rfl
@[go_sem] theorem live_17_2 : K.live 17 2 = none := rfl
@[go_sem] theorem out_17_2 : K.out 17 2 = none := rfl
@[go_sem] theorem dyn_17_9 : K.dyn 17 9 = [(2,39), (6,42)] := rfl
@[go_sem] theorem dyn_17_12 : K.dyn 17 12 = [] := rfl
@[go_sem] theorem live_21_0 : K.live 21 0 = some ([0, 1, 2, 6, 7, 19, 20, 21], [], []) := rfl
@[go_sem] theorem out_21_0 : K.out 21 0 = some [0, 1, 2, 6, 7] := rfl
@[go_sem] theorem live_21_1 : K.live 21 1 = none := rfl
@[go_sem] theorem out_21_1 : K.out 21 1 = none := rfl
@[go_sem] theorem live_21_2 : K.live 21 2 = none := rfl
@[go_sem] theorem out_21_2 : K.out 21 2 = none := rfl
@[go_sem] theorem live_21_3 : K.live 21 3 = some ([6, 116, 117, 118], [], []) := rfl
@[go_sem] theorem out_21_3 : K.out 21 3 = some [6] := rfl
@[go_sem] theorem live_21_4 : K.live 21 4 = none := rfl
@[go_sem] theorem out_21_4 : K.out 21 4 = none := rfl
@[go_sem] theorem dyn_21_7 : K.dyn 21 7 = [(6,7), (6,33)] := rfl
@[go_sem] theorem dyn_21_12 : K.dyn 21 12 = [] := rfl
@[go_sem] theorem dyn_21_14 : K.dyn 21 14 = [] := rfl
@[go_sem] theorem dyn_21_26 : K.dyn 21 26 = [] := rfl
@[go_sem] theorem live_22_0 : K.live 22 0 = none := rfl
@[go_sem] theorem out_22_0 : K.out 22 0 = none := rfl
@[go_sem] theorem dyn_23_1 : K.dyn 23 1 = [] := rfl
@[go_sem] theorem dyn_26_1 : K.dyn 26 1 = [] := rfl
@[go_sem] theorem live_28_0 : K.live 28 0 = none := rfl
@[go_sem] theorem out_28_0 : K.out 28 0 = none := rfl
@[go_sem] theorem dyn_28_5 : K.dyn 28 5 = [] := rfl
@[go_sem] theorem dyn_29_4 : K.dyn 29 4 = [] := rfl
@[go_sem] theorem dyn_31_3 : K.dyn 31 3 = [] := rfl
@[go_sem] theorem dyn_38_4 : K.dyn 38 4 = [] := rfl
@[go_sem] theorem dyn_38_5 : K.dyn 38 5 = [] := rfl
@[go_sem] theorem live_40_0 : K.live 40 0 = some ([0, 4, 5, 10, 11], [(5, none, 3, false)], []) := rfl
@[go_sem] theorem out_40_0 : K.out 40 0 = some [0, 4, 5] := rfl
@[go_sem] theorem live_40_1 : K.live 40 1 = none := rfl
@[go_sem] theorem out_40_1 : K.out 40 1 = none := rfl
@[go_sem] theorem live_40_2 : K.live 40 2 = some ([0, 4, 5, 7, 8, 42, 43], [], []) := rfl
@[go_sem] theorem out_40_2 : K.out 40 2 = some [0, 4, 5, 7, 8] := rfl
@[go_sem] theorem live_40_3 : K.live 40 3 = none := rfl
@[go_sem] theorem out_40_3 : K.out 40 3 = none := rfl
@[go_sem] theorem dyn_40_5 : K.dyn 40 5 = [(3,17), (11,15), (11,18)] := rfl
@[go_sem] theorem dyn_40_15 : K.dyn 40 15 = [] := rfl
@[go_sem] theorem live_42_0 : K.live 42 0 = some ([0, 5, 9, 10, 11], [(5, none, 3, true)], []) := rfl
@[go_sem] theorem out_42_0 : K.out 42 0 = some [0, 5] := rfl
@[go_sem] theorem live_42_1 : K.live 42 1 = none := rfl
@[go_sem] theorem out_42_1 : K.out 42 1 = none := rfl
@[go_sem] theorem live_44_0 : K.live 44 0 = none := rfl
@[go_sem] theorem out_44_0 : K.out 44 0 = none := rfl
@[go_sem] theorem live_45_0 : K.live 45 0 = some ([1, 2, 3, 4, 8, 10, 15, 16, 17], [(10, none, 1, false)], []) := rfl
@[go_sem] theorem out_45_0 : K.out 45 0 = some [1, 2, 3, 4, 8, 10] := rfl
@[go_sem] theorem live_45_1 : K.live 45 1 = none := rfl
@[go_sem] theorem out_45_1 : K.out 45 1 = none := rfl
@[go_sem] theorem dyn_46_4 : K.dyn 46 4 = [] := rfl
@[go_sem] theorem live_50_0 : K.live 50 0 = none := rfl
@[go_sem] theorem out_50_0 : K.out 50 0 = none := rfl
@[go_sem] theorem dyn_50_7 : K.dyn 50 7 = [] := rfl
@[go_sem] theorem dyn_50_9 : K.dyn 50 9 = [] := rfl
@[go_sem] theorem dyn_50_10 : K.dyn 50 10 = [] := rfl
@[go_sem] theorem live_54_0 : K.live 54 0 = none := rfl
@[go_sem] theorem out_54_0 : K.out 54 0 = none := rfl
@[go_sem] theorem dyn_61_2 : K.dyn 61 2 = [] := rfl
@[go_sem] theorem dyn_63_2 : K.dyn 63 2 = [] := rfl
@[go_sem] theorem live_64_0 : K.live 64 0 = none := rfl
@[go_sem] theorem out_64_0 : K.out 64 0 = none := rfl
@[go_sem] theorem live_66_0 : K.live 66 0 = none := rfl
@[go_sem] theorem out_66_0 : K.out 66 0 = none := rfl
@[go_sem] theorem dyn_76_1 : K.dyn 76 1 = [] := rfl
@[go_sem] theorem dyn_79_1 : K.dyn 79 1 = [] := rfl
@[go_sem] theorem live_80_0 : K.live 80 0 = none := rfl
@[go_sem] theorem out_80_0 : K.out 80 0 = none := rfl
@[go_sem] theorem live_81_0 : K.live 81 0 = none := rfl
@[go_sem] theorem out_81_0 : K.out 81 0 = none := rfl
@[go_sem] theorem live_82_0 : K.live 82 0 = some ([4, 5, 24, 25], [], []) := rfl
@[go_sem] theorem out_82_0 : K.out 82 0 = some [4, 5] := rfl
@[go_sem] theorem live_82_1 : K.live 82 1 = none := rfl
@[go_sem] theorem out_82_1 : K.out 82 1 = none := rfl
@[go_sem] theorem dyn_85_1 : K.dyn 85 1 = [] := rfl
@[go_sem] theorem dyn_86_1 : K.dyn 86 1 = [] := rfl
@[go_sem] theorem live_87_0 : K.live 87 0 = some ([5, 6, 7], [], []) := rfl
@[go_sem] theorem out_87_0 : K.out 87 0 = some [] := rfl
@[go_sem] theorem live_87_1 : K.live 87 1 = none := rfl
@[go_sem] theorem out_87_1 : K.out 87 1 = none := rfl
@[go_sem] theorem live_89_0 : K.live 89 0 = some ([5, 6, 7], [], []) := rfl
@[go_sem] theorem out_89_0 : K.out 89 0 = some [] := rfl
@[go_sem] theorem live_89_1 : K.live 89 1 = none := rfl
@[go_sem] theorem out_89_1 : K.out 89 1 = none := rfl
@[go_sem] theorem live_93_0 : K.live 93 0 = some ([0, 1, 5], [], [5]) := rfl
@[go_sem] theorem out_93_0 : K.out 93 0 = some [0, 5] := rfl
@[go_sem] theorem live_93_1 : K.live 93 1 = none := rfl
@[go_sem] theorem out_93_1 : K.out 93 1 = none := rfl
@[go_sem] theorem live_93_2 : K.live 93 2 = some ([0, 1, 5, 6, 34, 35], [], []) := rfl
@[go_sem] theorem out_93_2 : K.out 93 2 = some [0, 1, 6] := rfl
@[go_sem] theorem live_93_3 : K.live 93 3 = none := rfl
@[go_sem] theorem out_93_3 : K.out 93 3 = none := rfl
@[go_sem] theorem live_93_4 : K.live 93 4 = some ([0, 1, 5, 6, 7, 8, 70, 71], [], []) := rfl
@[go_sem] theorem out_93_4 : K.out 93 4 = some [0, 1, 6] := rfl
@[go_sem] theorem live_93_5 : K.live 93 5 = none := rfl
@[go_sem] theorem out_93_5 : K.out 93 5 = none := rfl
@[go_sem] theorem dyn_93_5 : K.dyn 93 5 = [] := rfl
@[go_sem] theorem live_95_0 : K.live 95 0 = some ([0, 3, 5, 6], [(3, none, 1, false)], []) := rfl
@[go_sem] theorem out_95_0 : K.out 95 0 = some [3] := rfl
@[go_sem] theorem live_95_1 : K.live 95 1 = none := rfl
@[go_sem] theorem out_95_1 : K.out 95 1 = none := rfl
@[go_sem] theorem live_96_0 : K.live 96 0 = none := rfl
@[go_sem] theorem out_96_0 : K.out 96 0 = none := rfl
@[go_sem] theorem live_96_1 : K.live 96 1 = some ([1, 10, 11, 12, 34, 35], [(12, some 9, 13, false)], []) := rfl
@[go_sem] theorem out_96_1 : K.out 96 1 = some [1, 10, 11, 12] := rfl
@[go_sem] theorem live_96_2 : K.live 96 2 = none := rfl
@[go_sem] theorem out_96_2 : K.out 96 2 = none := rfl
@[go_sem] theorem live_96_3 : K.live 96 3 = none := rfl
@[go_sem] theorem out_96_3 : K.out 96 3 = none := rfl
@[go_sem] theorem live_96_4 : K.live 96 4 = none := rfl
@[go_sem] theorem out_96_4 : K.out 96 4 = none := rfl
@[go_sem] theorem dyn_96_9 : K.dyn 96 9 = [(3,37), (6,37)] := rfl
@[go_sem] theorem dyn_96_11 : K.dyn 96 11 = [(4,48)] := rfl
@[go_sem] theorem live_97_0 : K.live 97 0 = none := rfl
@[go_sem] theorem out_97_0 : K.out 97 0 = none := rfl
@[go_sem] theorem live_97_1 : K.live 97 1 = some ([3, 4, 100, 101], [], []) := rfl
@[go_sem] theorem out_97_1 : K.out 97 1 = some [3, 4] := rfl
@[go_sem] theorem live_97_2 : K.live 97 2 = none := rfl
@[go_sem] theorem out_97_2 : K.out 97 2 = none := rfl
@[go_sem] theorem dyn_97_5 : K.dyn 97 5 = [(9,23)] := rfl
@[go_sem] theorem live_98_0 : K.live 98 0 = none := rfl
@[go_sem] theorem out_98_0 : K.out 98 0 = none := rfl
@[go_sem] theorem live_99_0 : K.live 99 0 = none := rfl
@[go_sem] theorem out_99_0 : K.out 99 0 = none := rfl
@[go_sem] theorem live_101_0 : K.live 101 0 = none := rfl
@[go_sem] theorem out_101_0 : K.out 101 0 = none := rfl
@[go_sem] theorem live_102_0 : K.live 102 0 = some ([0, 3, 4, 18, 19], [], []) := rfl
@[go_sem] theorem out_102_0 : K.out 102 0 = some [4] := rfl
@[go_sem] theorem live_102_1 : K.live 102 1 = none := rfl
@[go_sem] theorem out_102_1 : K.out 102 1 = none := rfl
@[go_sem] theorem dyn_102_2 : K.dyn 102 2 = [(2,9), (7,7), (7,10)] := rfl
@[go_sem] theorem live_105_0 : K.live 105 0 = some ([2, 3, 6, 16, 17, 18], [(6, none, 1, false)], []) := rfl
@[go_sem] theorem out_105_0 : K.out 105 0 = some [2, 3, 6] := rfl
@[go_sem] theorem live_105_1 : K.live 105 1 = none := rfl
@[go_sem] theorem out_105_1 : K.out 105 1 = none := rfl
@[go_sem] theorem live_105_2 : K.live 105 2 = none := rfl
@[go_sem] theorem out_105_2 : K.out 105 2 = none := rfl
@[go_sem] theorem live_106_0 : K.live 106 0 = some ([2, 3, 4, 5, 9, 10, 11], [(5, none, 3, false)], []) := rfl
@[go_sem] theorem out_106_0 : K.out 106 0 = some [2, 3, 4, 5] := rfl
@[go_sem] theorem live_106_1 : K.live 106 1 = none := rfl
@[go_sem] theorem out_106_1 : K.out 106 1 = none := rfl
@[go_sem] theorem live_106_2 : K.live 106 2 = none := rfl
@[go_sem] theorem out_106_2 : K.out 106 2 = none := rfl
@[go_sem] theorem dyn_106_13 : K.dyn 106 13 = [] := rfl
@[go_sem] theorem dyn_106_18 : K.dyn 106 18 = [] := rfl
@[go_sem] theorem live_108_0 : K.live 108 0 = some ([1, 2, 3, 4, 10, 20, 21, 22], [(10, none, 1, false)], []) := rfl
@[go_sem] theorem out_108_0 : K.out 108 0 = some [1, 2, 3, 4, 10] := rfl
@[go_sem] theorem live_108_1 : K.live 108 1 = none := rfl
@[go_sem] theorem out_108_1 : K.out 108 1 = none := rfl
@[go_sem] theorem live_109_0 : K.live 109 0 = some ([3, 6, 7, 8], [(3, none, 1, false)], []) := rfl
@[go_sem] theorem out_109_0 : K.out 109 0 = some [3] := rfl
@[go_sem] theorem live_109_1 : K.live 109 1 = none := rfl
@[go_sem] theorem out_109_1 : K.out 109 1 = none := rfl
@[go_sem] theorem live_110_0 : K.live 110 0 = some ([1, 2, 3, 4, 8, 9, 13, 14, 15], [(9, none, 3, false)], []) := rfl
@[go_sem] theorem out_110_0 : K.out 110 0 = some [1, 2, 3, 4, 8, 9] := rfl
@[go_sem] theorem live_110_1 : K.live 110 1 = none := rfl
@[go_sem] theorem out_110_1 : K.out 110 1 = none := rfl
@[go_sem] theorem live_110_2 : K.live 110 2 = none := rfl
@[go_sem] theorem out_110_2 : K.out 110 2 = none := rfl
@[go_sem] theorem live_112_0 : K.live 112 0 = some ([2, 3, 9, 10, 11], [], []) := rfl
@[go_sem] theorem out_112_0 : K.out 112 0 = some [2, 3] := rfl
@[go_sem] theorem live_112_1 : K.live 112 1 = none := rfl
@[go_sem] theorem out_112_1 : K.out 112 1 = none := rfl
@[go_sem] theorem live_113_0 : K.live 113 0 = some ([1, 3, 9, 10, 11], [(3, none, 1, false)], []) := rfl
@[go_sem] theorem out_113_0 : K.out 113 0 = some [1, 3] := rfl
@[go_sem] theorem live_113_1 : K.live 113 1 = none := rfl
@[go_sem] theorem out_113_1 : K.out 113 1 = none := rfl
@[go_sem] theorem live_113_2 : K.live 113 2 = none := rfl
@[go_sem] theorem out_113_2 : K.out 113 2 = none := rfl
@[go_sem] theorem dyn_113_19 : K.dyn 113 19 = [] := rfl
@[go_sem] theorem live_115_0 : K.live 115 0 = none := rfl
@[go_sem] theorem out_115_0 : K.out 115 0 = none := rfl
@[go_sem] theorem live_115_1 : K.live 115 1 = some ([1, 4, 20, 100, 101, 102], [(20, some 9, 13, false)], []) := rfl
@[go_sem] theorem out_115_1 : K.out 115 1 = some [4, 20] := rfl
@[go_sem] theorem live_115_2 : K.live 115 2 = none := rfl
@[go_sem] theorem out_115_2 : K.out 115 2 = none := rfl
@[go_sem] theorem dyn_115_23 : K.dyn 115 23 = [] := rfl
@[go_sem] theorem live_117_0 : K.live 117 0 = some ([0, 2, 3, 14, 15], [], []) := rfl
@[go_sem] theorem out_117_0 : K.out 117 0 = some [0, 2, 3] := rfl
@[go_sem] theorem live_117_1 : K.live 117 1 = none := rfl
@[go_sem] theorem out_117_1 : K.out 117 1 = none := rfl
@[go_sem] theorem live_119_0 : K.live 119 0 = none := rfl
@[go_sem] theorem out_119_0 : K.out 119 0 = none := rfl
@[go_sem] theorem live_120_0 : K.live 120 0 = none := rfl
@[go_sem] theorem out_120_0 : K.out 120 0 = none := rfl
@[go_sem] theorem live_120_1 : K.live 120 1 = some ([1, 23, 24], [], []) := rfl
@[go_sem] theorem out_120_1 : K.out 120 1 = some [] := rfl
@[go_sem] theorem live_120_2 : K.live 120 2 = none := rfl
@[go_sem] theorem out_120_2 : K.out 120 2 = none := rfl
@[go_sem] theorem live_122_0 : K.live 122 0 = some ([0, 2, 4, 20, 21, 22], [(4, none, 1, false)], []) := rfl
@[go_sem] theorem out_122_0 : K.out 122 0 = some [0, 2, 4] := rfl
@[go_sem] theorem live_122_1 : K.live 122 1 = none := rfl
@[go_sem] theorem out_122_1 : K.out 122 1 = none := rfl
@[go_sem] theorem dyn_122_12 : K.dyn 122 12 = [] := rfl
@[go_sem] theorem dyn_122_13 : K.dyn 122 13 = [] := rfl
@[go_sem] theorem live_127_0 : K.live 127 0 = some ([2, 3, 4, 5], [], []) := rfl
@[go_sem] theorem out_127_0 : K.out 127 0 = some [2, 3, 4, 5] := rfl
@[go_sem] theorem live_127_1 : K.live 127 1 = none := rfl
@[go_sem] theorem out_127_1 : K.out 127 1 = none := rfl
@[go_sem] theorem live_127_2 : K.live 127 2 = some ([2, 3, 4, 5, 6], [], []) := rfl
@[go_sem] theorem out_127_2 : K.out 127 2 = some [2, 3, 4, 5, 6] := rfl
@[go_sem] theorem live_127_3 : K.live 127 3 = none := rfl
@[go_sem] theorem out_127_3 : K.out 127 3 = none := rfl
@[go_sem] theorem live_130_0 : K.live 130 0 = some ([0, 2, 3, 4, 5], [], []) := rfl
@[go_sem] theorem out_130_0 : K.out 130 0 = some [0, 2, 3, 4, 5] := rfl
@[go_sem] theorem live_130_1 : K.live 130 1 = none := rfl
@[go_sem] theorem out_130_1 : K.out 130 1 = none := rfl
@[go_sem] theorem live_130_2 : K.live 130 2 = some ([0, 2, 3, 4, 5], [], []) := rfl
@[go_sem] theorem out_130_2 : K.out 130 2 = some [0, 2, 3, 4, 5] := rfl
@[go_sem] theorem live_130_3 : K.live 130 3 = none := rfl
@[go_sem] theorem out_130_3 : K.out 130 3 = none := rfl
@[go_sem] theorem live_134_0 : K.live 134 0 = none := rfl
@[go_sem] theorem out_134_0 : K.out 134 0 = none := rfl
@[go_sem] theorem live_135_0 : K.live 135 0 = some ([0, 1, 5, 6], [(5, some 0, 3, false)], []) := rfl
@[go_sem] theorem out_135_0 : K.out 135 0 = some [0, 5] := rfl
@[go_sem] theorem live_135_1 : K.live 135 1 = none := rfl
@[go_sem] theorem out_135_1 : K.out 135 1 = none := rfl
@[go_sem] theorem live_135_2 : K.live 135 2 = none := rfl
@[go_sem] theorem out_135_2 : K.out 135 2 = none := rfl
@[go_sem] theorem live_135_3 : K.live 135 3 = some ([0, 5, 8, 9, 10], [], [8]) := rfl
@[go_sem] theorem out_135_3 : K.out 135 3 = some [5, 8] := rfl
@[go_sem] theorem live_135_4 : K.live 135 4 = none := rfl
@[go_sem] theorem out_135_4 : K.out 135 4 = none := rfl
@[go_sem] theorem live_135_5 : K.live 135 5 = some ([0, 5, 8, 9, 10, 11, 76, 77, 78], [], []) := rfl
@[go_sem] theorem out_135_5 : K.out 135 5 = some [0, 5, 9, 10, 11] := rfl
@[go_sem] theorem live_135_6 : K.live 135 6 = none := rfl
@[go_sem] theorem out_135_6 : K.out 135 6 = none := rfl
@[go_sem] theorem dyn_135_9 : K.dyn 135 9 = [] := rfl
@[go_sem] theorem dyn_135_25 : K.dyn 135 25 = [] := rfl
@[go_sem] theorem live_136_0 : K.live 136 0 = some ([0, 1, 3, 4, 5, 12, 13, 14], [], []) := rfl
@[go_sem] theorem out_136_0 : K.out 136 0 = some [0, 1, 3, 4, 5, 12, 13] := rfl
@[go_sem] theorem live_136_1 : K.live 136 1 = none := rfl
@[go_sem] theorem out_136_1 : K.out 136 1 = none := rfl
@[go_sem] theorem live_136_2 : K.live 136 2 = some ([0, 1, 3, 4, 5, 12, 13, 15], [], []) := rfl
@[go_sem] theorem out_136_2 : K.out 136 2 = some [3, 4, 5, 12, 13] := rfl
@[go_sem] theorem live_136_3 : K.live 136 3 = none := rfl
@[go_sem] theorem out_136_3 : K.out 136 3 = none := rfl
@[go_sem] theorem live_137_0 : K.live 137 0 = some ([3, 6, 7, 8], [], []) := rfl
@[go_sem] theorem out_137_0 : K.out 137 0 = some [3] := rfl
@[go_sem] theorem live_137_1 : K.live 137 1 = none := rfl
@[go_sem] theorem out_137_1 : K.out 137 1 = none := rfl
@[go_sem] theorem live_147_0 : K.live 147 0 = some ([0, 1, 3, 8, 9, 14, 15, 16], [(9, none, 13, false)], []) := rfl
@[go_sem] theorem out_147_0 : K.out 147 0 = some [0, 1, 3, 8, 9] := rfl
@[go_sem] theorem live_147_1 : K.live 147 1 = none := rfl
@[go_sem] theorem out_147_1 : K.out 147 1 = none := rfl
@[go_sem] theorem live_147_2 : K.live 147 2 = some ([0, 1, 8, 9, 33, 34, 35], [(9, none, 13, false)], []) := rfl
@[go_sem] theorem out_147_2 : K.out 147 2 = some [0, 1, 8, 9] := rfl
@[go_sem] theorem live_147_3 : K.live 147 3 = none := rfl
@[go_sem] theorem out_147_3 : K.out 147 3 = none := rfl
@[go_sem] theorem live_150_0 : K.live 150 0 = none := rfl
@[go_sem] theorem out_150_0 : K.out 150 0 = none := rfl
@[go_sem] theorem live_150_1 : K.live 150 1 = none := rfl
@[go_sem] theorem out_150_1 : K.out 150 1 = none := rfl
@[go_sem] theorem live_150_2 : K.live 150 2 = none := rfl
@[go_sem] theorem out_150_2 : K.out 150 2 = none := rfl
@[go_sem] theorem dyn_150_17 : K.dyn 150 17 = [(4,63)] := rfl
@[go_sem] theorem live_151_0 : K.live 151 0 = none := rfl
@[go_sem] theorem out_151_0 : K.out 151 0 = none := rfl
@[go_sem] theorem live_155_0 : K.live 155 0 = some ([1, 2, 23, 24, 25], [], []) := rfl
@[go_sem] theorem out_155_0 : K.out 155 0 = some [] := rfl
@[go_sem] theorem live_155_1 : K.live 155 1 = none := rfl
@[go_sem] theorem out_155_1 : K.out 155 1 = none := rfl
@[go_sem] theorem live_156_0 : K.live 156 0 = none := rfl
@[go_sem] theorem out_156_0 : K.out 156 0 = none := rfl
@[go_sem] theorem live_157_0 : K.live 157 0 = some ([3, 7, 8, 9], [], []) := rfl
@[go_sem] theorem out_157_0 : K.out 157 0 = some [] := rfl
@[go_sem] theorem live_157_1 : K.live 157 1 = none := rfl
@[go_sem] theorem out_157_1 : K.out 157 1 = none := rfl
@[go_sem] theorem live_158_0 : K.live 158 0 = none := rfl
@[go_sem] theorem out_158_0 : K.out 158 0 = none := rfl
@[go_sem] theorem live_159_0 : K.live 159 0 = none := rfl
@[go_sem] theorem out_159_0 : K.out 159 0 = none := rfl
@[go_sem] theorem dyn_159_36 : K.dyn 159 36 = [] := rfl
@[go_sem] theorem live_160_0 : K.live 160 0 = none := rfl
@[go_sem] theorem out_160_0 : K.out 160 0 = none := rfl
@[go_sem] theorem live_160_1 : K.live 160 1 = none := rfl
@[go_sem] theorem out_160_1 : K.out 160 1 = none := rfl
@[go_sem] theorem live_161_0 : K.live 161 0 = some ([4, 7, 8, 9], [], []) := rfl
@[go_sem] theorem out_161_0 : K.out 161 0 = some [4] := rfl
@[go_sem] theorem live_161_1 : K.live 161 1 = none := rfl
@[go_sem] theorem out_161_1 : K.out 161 1 = none := rfl
@[go_sem] theorem live_162_0 : K.live 162 0 = none := rfl
@[go_sem] theorem out_162_0 : K.out 162 0 = none := rfl
@[go_sem] theorem live_162_1 : K.live 162 1 = some ([6, 229, 230, 231], [], []) := rfl
@[go_sem] theorem out_162_1 : K.out 162 1 = some [6] := rfl
@[go_sem] theorem live_162_2 : K.live 162 2 = none := rfl
@[go_sem] theorem out_162_2 : K.out 162 2 = none := rfl
@[go_sem] theorem dyn_162_5 : K.dyn 162 5 = [] := rfl
@[go_sem] theorem dyn_162_7 : K.dyn 162 7 = [] := rfl
@[go_sem] theorem dyn_162_9 : K.dyn 162 9 = [] := rfl
@[go_sem] theorem dyn_162_11 : K.dyn 162 11 = [] := rfl
@[go_sem] theorem dyn_162_13 : K.dyn 162 13 = [] := rfl
@[go_sem] theorem dyn_162_15 : K.dyn 162 15 = [] := rfl
@[go_sem] theorem dyn_162_17 : K.dyn 162 17 = [] := rfl
@[go_sem] theorem dyn_162_19 : K.dyn 162 19 = [] := rfl
@[go_sem] theorem dyn_162_21 : K.dyn 162 21 = [] := rfl
@[go_sem] theorem dyn_162_25 : K.dyn 162 25 = [] := rfl
@[go_sem] theorem dyn_162_27 : K.dyn 162 27 = [] := rfl
@[go_sem] theorem dyn_162_29 : K.dyn 162 29 = [] := rfl
@[go_sem] theorem dyn_162_31 : K.dyn 162 31 = [] := rfl
@[go_sem] theorem dyn_162_33 : K.dyn 162 33 = [] := rfl
@[go_sem] theorem dyn_162_37 : K.dyn 162 37 = [] := rfl
@[go_sem] theorem dyn_162_39 : K.dyn 162 39 = [] := rfl
@[go_sem] theorem dyn_162_47 : K.dyn 162 47 = [] := rfl
@[go_sem] theorem live_163_0 : K.live 163 0 = some ([0, 2, 3], [], []) := rfl
@[go_sem] theorem out_163_0 : K.out 163 0 = some [0, 2] := rfl
@[go_sem] theorem live_163_1 : K.live 163 1 = none := rfl
@[go_sem] theorem out_163_1 : K.out 163 1 = none := rfl
@[go_sem] theorem live_164_0 : K.live 164 0 = some ([2, 4, 5, 9, 10, 11], [], []) := rfl
@[go_sem] theorem out_164_0 : K.out 164 0 = some [4, 5] := rfl
@[go_sem] theorem live_164_1 : K.live 164 1 = none := rfl
@[go_sem] theorem out_164_1 : K.out 164 1 = none := rfl
@[go_sem] theorem dyn_164_5 : K.dyn 164 5 = [] := rfl
@[go_sem] theorem live_165_0 : K.live 165 0 = none := rfl
@[go_sem] theorem out_165_0 : K.out 165 0 = none := rfl
@[go_sem] theorem live_166_0 : K.live 166 0 = none := rfl
@[go_sem] theorem out_166_0 : K.out 166 0 = none := rfl
@[go_sem] theorem live_166_1 : K.live 166 1 = none := rfl
@[go_sem] theorem out_166_1 : K.out 166 1 = none := rfl
@[go_sem] theorem live_166_2 : K.live 166 2 = none := rfl
@[go_sem] theorem out_166_2 : K.out 166 2 = none := rfl
@[go_sem] theorem live_167_0 : K.live 167 0 = none := rfl
@[go_sem] theorem out_167_0 : K.out 167 0 = none := rfl
@[go_sem] theorem dyn_167_13 : K.dyn 167 13 = [] := rfl
@[go_sem] theorem dyn_167_32 : K.dyn 167 32 = [] := rfl
@[go_sem] theorem live_168_0 : K.live 168 0 = none := rfl
@[go_sem] theorem out_168_0 : K.out 168 0 = none := rfl
@[go_sem] theorem live_168_1 : K.live 168 1 = none := rfl
@[go_sem] theorem out_168_1 : K.out 168 1 = none := rfl
@[go_sem] theorem live_170_0 : K.live 170 0 = some ([1, 4, 5, 13, 14, 15], [], []) := rfl
@[go_sem] theorem out_170_0 : K.out 170 0 = some [4, 5] := rfl
@[go_sem] theorem live_170_1 : K.live 170 1 = none := rfl
@[go_sem] theorem out_170_1 : K.out 170 1 = none := rfl
@[go_sem] theorem live_170_2 : K.live 170 2 = some ([1, 4, 8], [], []) := rfl
@[go_sem] theorem out_170_2 : K.out 170 2 = some [1, 4] := rfl
@[go_sem] theorem live_170_3 : K.live 170 3 = none := rfl
@[go_sem] theorem out_170_3 : K.out 170 3 = none := rfl
@[go_sem] theorem dyn_170_6 : K.dyn 170 6 = [] := rfl
@[go_sem] theorem live_171_0 : K.live 171 0 = some ([1, 2, 21, 22, 23], [], []) := rfl
@[go_sem] theorem out_171_0 : K.out 171 0 = some [1, 2] := rfl
@[go_sem] theorem live_171_1 : K.live 171 1 = none := rfl
@[go_sem] theorem out_171_1 : K.out 171 1 = none := rfl
@[go_sem] theorem live_171_2 : K.live 171 2 = none := rfl
@[go_sem] theorem out_171_2 : K.out 171 2 = none := rfl
@[go_sem] theorem live_172_0 : K.live 172 0 = none := rfl
@[go_sem] theorem out_172_0 : K.out 172 0 = none := rfl
@[go_sem] theorem live_172_1 : K.live 172 1 = some ([0, 82, 83, 84], [], []) := rfl
@[go_sem] theorem out_172_1 : K.out 172 1 = some [0] := rfl
@[go_sem] theorem live_172_2 : K.live 172 2 = none := rfl
@[go_sem] theorem out_172_2 : K.out 172 2 = none := rfl
@[go_sem] theorem dyn_172_2 : K.dyn 172 2 = [(8,16)] := rfl
@[go_sem] theorem live_176_0 : K.live 176 0 = none := rfl
@[go_sem] theorem out_176_0 : K.out 176 0 = none := rfl
@[go_sem] theorem live_176_1 : K.live 176 1 = none := rfl
@[go_sem] theorem out_176_1 : K.out 176 1 = none := rfl
@[go_sem] theorem live_176_2 : K.live 176 2 = some ([0, 2, 10], [(10, some 9, 13, false)], []) := rfl
@[go_sem] theorem out_176_2 : K.out 176 2 = some [0, 2, 10] := rfl
@[go_sem] theorem live_176_3 : K.live 176 3 = none := rfl
@[go_sem] theorem out_176_3 : K.out 176 3 = none := rfl
@[go_sem] theorem dyn_176_11 : K.dyn 176 11 = [(12,65)] := rfl
@[go_sem] theorem dyn_176_33 : K.dyn 176 33 = [(3,137)] := rfl
@[go_sem] theorem live_180_0 : K.live 180 0 = some ([0, 1, 7, 8], [], []) := rfl
@[go_sem] theorem out_180_0 : K.out 180 0 = some [] := rfl
@[go_sem] theorem live_180_1 : K.live 180 1 = none := rfl
@[go_sem] theorem out_180_1 : K.out 180 1 = none := rfl
@[go_sem] theorem live_181_0 : K.live 181 0 = some ([0, 3, 4, 5, 6, 7], [(3, none, 1, false)], []) := rfl
@[go_sem] theorem out_181_0 : K.out 181 0 = some [0, 3, 5] := rfl
@[go_sem] theorem live_181_1 : K.live 181 1 = none := rfl
@[go_sem] theorem out_181_1 : K.out 181 1 = none := rfl
@[go_sem] theorem live_181_2 : K.live 181 2 = none := rfl
@[go_sem] theorem out_181_2 : K.out 181 2 = none := rfl
@[go_sem] theorem live_183_0 : K.live 183 0 = some ([0, 1, 3, 4, 5, 12, 13, 14], [], []) := rfl
@[go_sem] theorem out_183_0 : K.out 183 0 = some [3, 4, 5, 12, 13] := rfl
@[go_sem] theorem live_183_1 : K.live 183 1 = none := rfl
@[go_sem] theorem out_183_1 : K.out 183 1 = none := rfl
@[go_sem] theorem live_192_0 : K.live 192 0 = none := rfl
@[go_sem] theorem out_192_0 : K.out 192 0 = none := rfl
@[go_sem] theorem live_193_0 : K.live 193 0 = none := rfl
@[go_sem] theorem out_193_0 : K.out 193 0 = none := rfl
@[go_sem] theorem live_195_0 : K.live 195 0 = none := rfl
@[go_sem] theorem out_195_0 : K.out 195 0 = none := rfl
@[go_sem] theorem live_199_0 : K.live 199 0 = some ([0, 5, 6, 7], [], []) := rfl
@[go_sem] theorem out_199_0 : K.out 199 0 = some [] := rfl
@[go_sem] theorem live_199_1 : K.live 199 1 = none := rfl
@[go_sem] theorem out_199_1 : K.out 199 1 = none := rfl
@[go_sem] theorem live_214_0 : K.live 214 0 = none := rfl
@[go_sem] theorem out_214_0 : K.out 214 0 = none := rfl
@[go_sem] theorem live_215_0 : K.live 215 0 = some ([0, 7, 8, 9], [], []) := rfl
@[go_sem] theorem out_215_0 : K.out 215 0 = some [] := rfl
@[go_sem] theorem live_215_1 : K.live 215 1 = none := rfl
@[go_sem] theorem out_215_1 : K.out 215 1 = none := rfl
@[go_sem] theorem live_216_0 : K.live 216 0 = none := rfl
@[go_sem] theorem out_216_0 : K.out 216 0 = none := rfl
@[go_sem] theorem dyn_216_1 : K.dyn 216 1 = [] := rfl
@[go_sem] theorem live_217_0 : K.live 217 0 = some ([4, 5, 6], [], []) := rfl
@[go_sem] theorem out_217_0 : K.out 217 0 = some [4, 5] := rfl
@[go_sem] theorem live_217_1 : K.live 217 1 = none := rfl
@[go_sem] theorem out_217_1 : K.out 217 1 = none := rfl
@[go_sem] theorem live_220_0 : K.live 220 0 = none := rfl
@[go_sem] theorem out_220_0 : K.out 220 0 = none := rfl
@[go_sem] theorem live_222_0 : K.live 222 0 = some ([0, 2, 11, 12, 13], [], []) := rfl
@[go_sem] theorem out_222_0 : K.out 222 0 = some [0] := rfl
@[go_sem] theorem live_222_1 : K.live 222 1 = none := rfl
@[go_sem] theorem out_222_1 : K.out 222 1 = none := rfl
@[go_sem] theorem live_223_0 : K.live 223 0 = some ([4, 7, 8, 9], [], []) := rfl
@[go_sem] theorem out_223_0 : K.out 223 0 = some [4] := rfl
@[go_sem] theorem live_223_1 : K.live 223 1 = none := rfl
@[go_sem] theorem out_223_1 : K.out 223 1 = none := rfl
@[go_sem] theorem live_223_2 : K.live 223 2 = none := rfl
@[go_sem] theorem out_223_2 : K.out 223 2 = none := rfl
@[go_sem] theorem live_224_0 : K.live 224 0 = some ([0, 1, 2, 8, 9, 10, 17, 18, 19], [], []) := rfl
@[go_sem] theorem out_224_0 : K.out 224 0 = some [0, 1, 2, 9, 10] := rfl
@[go_sem] theorem live_224_1 : K.live 224 1 = none := rfl
@[go_sem] theorem out_224_1 : K.out 224 1 = none := rfl
@[go_sem] theorem live_224_2 : K.live 224 2 = some ([0, 1, 2, 8, 9, 10, 12, 17, 18, 19, 25, 26, 27], [], []) := rfl
@[go_sem] theorem out_224_2 : K.out 224 2 = some [0, 1, 2, 8, 9, 10, 17, 18, 19] := rfl
@[go_sem] theorem live_224_3 : K.live 224 3 = none := rfl
@[go_sem] theorem out_224_3 : K.out 224 3 = none := rfl
@[go_sem] theorem live_224_4 : K.live 224 4 = none := rfl
@[go_sem] theorem out_224_4 : K.out 224 4 = none := rfl
@[go_sem] theorem live_224_5 : K.live 224 5 = none := rfl
@[go_sem] theorem out_224_5 : K.out 224 5 = none := rfl
@[go_sem] theorem live_225_0 : K.live 225 0 = some ([0, 1, 7, 8], [], []) := rfl
@[go_sem] theorem out_225_0 : K.out 225 0 = some [] := rfl
@[go_sem] theorem live_225_1 : K.live 225 1 = none := rfl
@[go_sem] theorem out_225_1 : K.out 225 1 = none := rfl
@[go_sem] theorem live_228_0 : K.live 228 0 = none := rfl
@[go_sem] theorem out_228_0 : K.out 228 0 = none := rfl
@[go_sem] theorem live_230_0 : K.live 230 0 = some ([0, 5, 6], [], []) := rfl
@[go_sem] theorem out_230_0 : K.out 230 0 = some [] := rfl
@[go_sem] theorem live_230_1 : K.live 230 1 = none := rfl
@[go_sem] theorem out_230_1 : K.out 230 1 = none := rfl
@[go_sem] theorem live_231_0 : K.live 231 0 = none := rfl
@[go_sem] theorem out_231_0 : K.out 231 0 = none := rfl
@[go_sem] theorem live_234_0 : K.live 234 0 = some ([0, 3], [], []) := rfl
@[go_sem] theorem out_234_0 : K.out 234 0 = some [] := rfl
@[go_sem] theorem live_234_1 : K.live 234 1 = none := rfl
@[go_sem] theorem out_234_1 : K.out 234 1 = none := rfl
@[go_sem] theorem live_237_0 : K.live 237 0 = some ([0, 1, 5], [], []) := rfl
@[go_sem] theorem out_237_0 : K.out 237 0 = some [0, 5] := rfl
@[go_sem] theorem live_237_1 : K.live 237 1 = none := rfl
@[go_sem] theorem out_237_1 : K.out 237 1 = none := rfl
@[go_sem] theorem live_239_0 : K.live 239 0 = some ([0, 3], [], []) := rfl
@[go_sem] theorem out_239_0 : K.out 239 0 = some [] := rfl
@[go_sem] theorem live_239_1 : K.live 239 1 = none := rfl
@[go_sem] theorem out_239_1 : K.out 239 1 = none := rfl
@[go_sem] theorem live_240_0 : K.live 240 0 = none := rfl
@[go_sem] theorem out_240_0 : K.out 240 0 = none := rfl
@[go_sem] theorem live_241_0 : K.live 241 0 = none := rfl
@[go_sem] theorem out_241_0 : K.out 241 0 = none := rfl
@[go_sem] theorem dyn_243_3 : K.dyn 243 3 = [] := rfl
@[go_sem] theorem live_256_0 : K.live 256 0 = none := rfl
@[go_sem] theorem out_256_0 : K.out 256 0 = none := rfl
@[go_sem] theorem live_256_1 : K.live 256 1 = some ([0, 1, 5, 6, 7, 8, 9, 10], [], []) := rfl
@[go_sem] theorem out_256_1 : K.out 256 1 = some [] := rfl
@[go_sem] theorem live_256_2 : K.live 256 2 = none := rfl
@[go_sem] theorem out_256_2 : K.out 256 2 = none := rfl
@[go_sem] theorem live_259_0 : K.live 259 0 = some ([6, 7, 8], [], []) := rfl
@[go_sem] theorem out_259_0 : K.out 259 0 = some [] := rfl
@[go_sem] theorem live_259_1 : K.live 259 1 = none := rfl
@[go_sem] theorem out_259_1 : K.out 259 1 = none := rfl
@[go_sem] theorem live_268_0 : K.live 268 0 = none := rfl
@[go_sem] theorem out_268_0 : K.out 268 0 = none := rfl
@[go_sem] theorem live_275_0 : K.live 275 0 = some ([0, 3], [], []) := rfl
@[go_sem] theorem out_275_0 : K.out 275 0 = some [] := rfl
@[go_sem] theorem live_275_1 : K.live 275 1 = none := rfl
@[go_sem] theorem out_275_1 : K.out 275 1 = none := rfl
theorem call_3 : CallT 3 Tryz.f3 := fun _ _ => R_call rfl rfl (by decide +kernel) rfl Tryz.func3 rfl
theorem call_4 : CallT 4 Tryz.f4 := fun _ _ => R_call rfl rfl (by decide +kernel) rfl Tryz.func4 rfl
theorem call_5 : CallT 5 Tryz.f5 := fun _ _ => R_call rfl rfl (by decide +kernel) rfl Tryz.func5 rfl
theorem call_6 : CallT 6 Tryz.f6 := fun _ _ => R_call rfl rfl (by decide +kernel) rfl Tryz.func6 rfl
theorem call_7 : CallT 7 Tryz.f7 := fun _ _ => R_call rfl rfl (by decide +kernel) rfl Tryz.func7 rfl
theorem call_8 : CallT 8 Tryz.f8 := fun _ _ => R_call rfl rfl (by decide +kernel) rfl Tryz.func8 rfl
theorem call_9 : CallT 9 Tryz.f9 := fun _ _ => R_call rfl rfl (by decide +kernel) rfl Tryz.func9 rfl
theorem call_10 : CallT 10 Tryz.f10 := fun _ _ => R_call rfl rfl (by decide +kernel) rfl Tryz.func10 rfl
@[go_sem] theorem ret_10 (k : Nat) (fr : Fr) (h : Heap) : retOf K 10 k fr h = leaving 0 k h (resL Tryz.prog fr h [.tmp 2]) := ret_of Tryz.func10 rfl rfl
theorem call_11 : CallT 11 Tryz.f11 := fun _ _ => R_call rfl rfl (by decide +kernel) rfl Tryz.func11 rfl
@[go_sem] theorem ret_11 (k : Nat) (fr : Fr) (h : Heap) : retOf K 11 k fr h = leaving 0 k h (resL Tryz.prog fr h [.cell 2 23, .tmp 3]) := ret_of Tryz.func11 rfl rfl
theorem call_12 : CallT 12 Tryz.f12 := fun _ _ => R_call rfl rfl (by decide +kernel) rfl Tryz.func12 rfl
@[go_sem] theorem ret_12 (k : Nat) (fr : Fr) (h : Heap) : retOf K 12 k fr h = leaving 0 k h (resL Tryz.prog fr h [.cell 2 23, .tmp 3]) := ret_of Tryz.func12 rfl rfl
theorem call_13 : CallT 13 Tryz.f13 := fun _ _ => R_call rfl rfl (by decide +kernel) rfl Tryz.func13 rfl
@[go_sem] theorem ret_13 (k : Nat) (fr : Fr) (h : Heap) : retOf K 13 k fr h = leaving 0 k h (resL Tryz.prog fr h [.tmp 2]) := ret_of Tryz.func13 rfl rfl
theorem call_14 : CallT 14 Tryz.f14 := fun _ _ => R_call rfl rfl (by decide +kernel) rfl Tryz.func14 rfl
@[go_sem] theorem ret_14 (k : Nat) (fr : Fr) (h : Heap) : retOf K 14 k fr h = leaving 0 k h (resL Tryz.prog fr h [.tmp 2]) := ret_of Tryz.func14 rfl rfl
theorem call_15 : CallT 15 Tryz.f15 := fun _ _ => R_call rfl rfl (by decide +kernel) rfl Tryz.func15 rfl
@[go_sem] theorem ret_15 (k : Nat) (fr : Fr) (h : Heap) : retOf K 15 k fr h = leaving 0 k h (resL Tryz.prog fr h [.tmp 0]) := ret_of Tryz.func15 rfl rfl
theorem call_16 : CallT 16 Tryz.f16 := fun _ _ => R_call rfl rfl (by decide +kernel) rfl Tryz.func16 rfl
@[go_sem] theorem ret_16 (k : Nat) (fr : Fr) (h : Heap) : retOf K 16 k fr h = leaving 0 k h (resL Tryz.prog fr h [.cell 4 23]) := ret_of Tryz.func16 rfl rfl
theorem call_17 : CallT 17 Tryz.f17 := fun _ _ => R_call rfl rfl (by decide +kernel) rfl Tryz.func17 rfl
theorem call_18 : CallT 18 Tryz.f18 := fun _ _ => R_call rfl rfl (by decide +kernel) rfl Tryz.func18 rfl
@[go_sem] theorem ret_18 (k : Nat) (fr : Fr) (h : Heap) : retOf K 18 k fr h = leaving 0 k h (resL Tryz.prog fr h [.tmp 4]) := ret_of Tryz.func18 rfl rfl
theorem call_19 : CallT 19 Tryz.f19 := fun _ _ => R_call rfl rfl (by decide +kernel) rfl Tryz.func19 rfl
@[go_sem] theorem ret_19 (k : Nat) (fr : Fr) (h : Heap) : retOf K 19 k fr h = leaving 0 k h (resL Tryz.prog fr h [.tmp 4]) := ret_of Tryz.func19 rfl rfl
theorem call_20 : CallT 20 Tryz.f20 := fun _ _ => R_call rfl rfl (by decide +kernel) rfl Tryz.func20 rfl
@[go_sem] theorem ret_20 (k : Nat) (fr : Fr) (h : Heap) : retOf K 20 k fr h = leaving 0 k h (resL Tryz.prog fr h [.cell 2 23]) := ret_of Tryz.func20 rfl rfl
theorem call_21 : CallT 21 Tryz.f21 := fun _ _ => R_call rfl rfl (by decide +kernel) rfl Tryz.func21 rfl
theorem call_22 : CallT 22 Tryz.f22 := fun _ _ => R_call rfl rfl (by decide +kernel) rfl Tryz.func22 rfl
@[go_sem] theorem ret_22 (k : Nat) (fr : Fr) (h : Heap) : retOf K 22 k fr h = leaving 0 k h (resL Tryz.prog fr h [.cell 4 23]) := ret_of Tryz.func22 rfl rfl
theorem call_23 : CallT 23 Tryz.f23 := fun _ _ => R_call rfl rfl (by decide +kernel) rfl Tryz.func23 rfl
@[go_sem] theorem ret_23 (k : Nat) (fr : Fr) (h : Heap) : retOf K 23 k fr h = leaving 0 k h (resL Tryz.prog fr h [.cell 4 23]) := ret_of Tryz.func23 rfl rfl
theorem call_24 : CallT 24 Tryz.f24 := fun _ _ => R_call rfl rfl (by decide +kernel) rfl Tryz.func24 rfl
@[go_sem] theorem ret_24 (k : Nat) (fr : Fr) (h : Heap) : retOf K 24 k fr h = leaving 0 k h (resL Tryz.prog fr h [.cell 4 23]) := ret_of Tryz.func24 rfl rfl
theorem call_25 : CallT 25 Tryz.f25 := fun _ _ => R_call rfl rfl (by decide +kernel) rfl Tryz.func25 rfl
@[go_sem] theorem ret_25 (k : Nat) (fr : Fr) (h : Heap) : retOf K 25 k fr h = leaving 0 k h (resL Tryz.prog fr h [.cell 4 23]) := ret_of Tryz.func25 rfl rfl
theorem call_26 : CallT 26 Tryz.f26 := fun _ _ => R_call rfl rfl (by decide +kernel) rfl Tryz.func26 rfl
@[go_sem] theorem ret_26 (k : Nat) (fr : Fr) (h : Heap) : retOf K 26 k fr h = leaving 0 k h (resL Tryz.prog fr h [.cell 4 23]) := ret_of Tryz.func26 rfl rfl
theorem call_27 : CallT 27 Tryz.f27 := fun _ _ => R_call rfl rfl (by decide +kernel) rfl Tryz.func27 rfl
@[go_sem] theorem ret_27 (k : Nat) (fr : Fr) (h : Heap) : retOf K 27 k fr h = leaving 0 k h (resL Tryz.prog fr h [.cell 4 23]) := ret_of Tryz.func27 rfl rfl
theorem call_28 : CallT 28 Tryz.f28 := fun _ _ => R_call rfl rfl (by decide +kernel) rfl Tryz.func28 rfl
@[go_sem] theorem ret_28 (k : Nat) (fr : Fr) (h : Heap) : retOf K 28 k fr h = leaving 0 k h (resL Tryz.prog fr h [.cell 4 23]) := ret_of Tryz.func28 rfl rfl
theorem call_29 : CallT 29 Tryz.f29 := fun _ _ => R_call rfl rfl (by decide +kernel) rfl Tryz.func29 rfl
@[go_sem] theorem ret_29 (k : Nat) (fr : Fr) (h : Heap) : retOf K 29 k fr h = leaving 0 k h (resL Tryz.prog fr h [.cell 4 23]) := ret_of Tryz.func29 rfl rfl
theorem call_30 : CallT 30 Tryz.f30 := fun _ _ => R_call rfl rfl (by decide +kernel) rfl Tryz.func30 rfl
@[go_sem] theorem ret_30 (k : Nat) (fr : Fr) (h : Heap) : retOf K 30 k fr h = leaving 0 k h (resL Tryz.prog fr h [.cell 4 23]) := ret_of Tryz.func30 rfl rfl
theorem call_31 : CallT 31 Tryz.f31 := fun _ _ => R_call rfl rfl (by decide +kernel) rfl Tryz.func31 rfl
@[go_sem] theorem ret_31 (k : Nat) (fr : Fr) (h : Heap) : retOf K 31 k fr h = leaving 0 k h (resL Tryz.prog fr h [.cell 4 23]) := ret_of Tryz.func31 rfl rfl
theorem call_32 : CallT 32 Tryz.f32 := fun _ _ => R_call rfl rfl (by decide +kernel) rfl Tryz.func32 rfl
@[go_sem] theorem ret_32 (k : Nat) (fr : Fr) (h : Heap) : retOf K 32 k fr h = leaving 0 k h (resL Tryz.prog fr h [.cell 2 23]) := ret_of Tryz.func32 rfl rfl
theorem call_33 : CallT 33 Tryz.f33 := fun _ _ => R_call rfl rfl (by decide +kernel) rfl Tryz.func33 rfl
@[go_sem] theorem ret_33 (k : Nat) (fr : Fr) (h : Heap) : retOf K 33 k fr h = leaving 0 k h (resL Tryz.prog fr h [.cell 4 23]) := ret_of Tryz.func33 rfl rfl
theorem call_34 : CallT 34 Tryz.f34 := fun _ _ => R_call rfl rfl (by decide +kernel) rfl Tryz.func34 rfl
@[go_sem] theorem ret_34 (k : Nat) (fr : Fr) (h : Heap) : retOf K 34 k fr h = leaving 0 k h (resL Tryz.prog fr h [.cell 2 23]) := ret_of Tryz.func34 rfl rfl
theorem call_35 : CallT 35 Tryz.f35 := fun _ _ => R_call rfl rfl (by decide +kernel) rfl Tryz.func35 rfl
@[go_sem] theorem ret_35 (k : Nat) (fr : Fr) (h : Heap) : retOf K 35 k fr h = leaving 0 k h (resL Tryz.prog fr h [.cell 2 23]) := ret_of Tryz.func35 rfl rfl
theorem call_36 : CallT 36 Tryz.f36 := fun _ _ => R_call rfl rfl (by decide +kernel) rfl Tryz.func36 rfl
@[go_sem] theorem ret_36 (k : Nat) (fr : Fr) (h : Heap) : retOf K 36 k fr h = leaving 0 k h (resL Tryz.prog fr h [.cell 2 23]) := ret_of Tryz.func36 rfl rfl
theorem call_37 : CallT 37 Tryz.f37 := fun _ _ => R_call rfl rfl (by decide +kernel) rfl Tryz.func37 rfl
@[go_sem] theorem ret_37 (k : Nat) (fr : Fr) (h : Heap) : retOf K 37 k fr h = leaving 0 k h (resL Tryz.prog fr h [.cell 6 23]) := ret_of Tryz.func37 rfl rfl
theorem call_38 : CallT 38 Tryz.f38 := fun _ _ => R_call rfl rfl (by decide +kernel) rfl Tryz.func38 rfl
@[go_sem] theorem ret_38 (k : Nat) (fr : Fr) (h : Heap) : retOf K 38 k fr h = leaving 0 k h (resL Tryz.prog fr h [.tmp 4]) := ret_of Tryz.func38 rfl rfl
theorem call_39 : CallT 39 Tryz.f39 := fun _ _ => R_call rfl rfl (by decide +kernel) rfl Tryz.func39 rfl
@[go_sem] theorem ret_39 (k : Nat) (fr : Fr) (h : Heap) : retOf K 39 k fr h = leaving 0 k h (resL Tryz.prog fr h [.cell 4 23]) := ret_of Tryz.func39 rfl rfl
theorem call_40 : CallT 40 Tryz.f40 := fun _ _ => R_call rfl rfl (by decide +kernel) rfl Tryz.func40 rfl
@[go_sem] theorem ret_40 (k : Nat) (fr : Fr) (h : Heap) : retOf K 40 k fr h = leaving 0 k h (resL Tryz.prog fr h [.tmp 2, .tmp 3, .cell 4 52]) := ret_of Tryz.func40 rfl rfl
theorem call_41 : CallT 41 Tryz.f41 := fun _ _ => R_call rfl rfl (by decide +kernel) rfl Tryz.func41 rfl
@[go_sem] theorem ret_41 (k : Nat) (fr : Fr) (h : Heap) : retOf K 41 k fr h = leaving 0 k h (resL Tryz.prog fr h [.cell 4 23]) := ret_of Tryz.func41 rfl rfl
theorem call_42 : CallT 42 Tryz.f42 := fun _ _ => R_call rfl rfl (by decide +kernel) rfl Tryz.func42 rfl
theorem call_43 : CallT 43 Tryz.f43 := fun _ _ => R_call rfl rfl (by decide +kernel) rfl Tryz.func43 rfl
@[go_sem] theorem ret_43 (k : Nat) (fr : Fr) (h : Heap) : retOf K 43 k fr h = leaving 0 k h (resL Tryz.prog fr h [.tmp 4]) := ret_of Tryz.func43 rfl rfl
theorem call_44 : CallT 44 Tryz.f44 := fun _ _ => R_call rfl rfl (by decide +kernel) rfl Tryz.func44 rfl
@[go_sem] theorem ret_44 (k : Nat) (fr : Fr) (h : Heap) : retOf K 44 k fr h = leaving 0 k h (resL Tryz.prog fr h [.cell 2 23]) := ret_of Tryz.func44 rfl rfl
theorem call_45 : CallT 45 Tryz.f45 := fun _ _ => R_call rfl rfl (by decide +kernel) rfl Tryz.func45 rfl
@[go_sem] theorem ret_45 (k : Nat) (fr : Fr) (h : Heap) : retOf K 45 k fr h = leaving 0 k h (resL Tryz.prog fr h [.cell 8 23, .tmp 9]) := ret_of Tryz.func45 rfl rfl
theorem call_46 : CallT 46 Tryz.f46 := fun _ _ => R_call rfl rfl (by decide +kernel) rfl Tryz.func46 rfl
theorem call_47 : CallT 47 Tryz.f47 := fun _ _ => R_call rfl rfl (by decide +kernel) rfl Tryz.func47 rfl
@[go_sem] theorem ret_47 (k : Nat) (fr : Fr) (h : Heap) : retOf K 47 k fr h = leaving 0 k h (resL Tryz.prog fr h [.tmp 2, .tmp 3]) := ret_of Tryz.func47 rfl rfl
theorem call_48 : CallT 48 Tryz.f48 := fun _ _ => R_call rfl rfl (by decide +kernel) rfl Tryz.func48 rfl
@[go_sem] theorem ret_48 (k : Nat) (fr : Fr) (h : Heap) : retOf K 48 k fr h = leaving 0 k h (resL Tryz.prog fr h [.tmp 2, .tmp 3]) := ret_of Tryz.func48 rfl rfl
theorem call_49 : CallT 49 Tryz.f49 := fun _ _ => R_call rfl rfl (by decide +kernel) rfl Tryz.func49 rfl
@[go_sem] theorem ret_49 (k : Nat) (fr : Fr) (h : Heap) : retOf K 49 k fr h = leaving 0 k h (resL Tryz.prog fr h [.tmp 4]) := ret_of Tryz.func49 rfl rfl
theorem call_50 : CallT 50 Tryz.f50 := fun _ _ => R_call rfl rfl (by decide +kernel) rfl Tryz.func50 rfl
@[go_sem] theorem ret_50 (k : Nat) (fr : Fr) (h : Heap) : retOf K 50 k fr h = leaving 0 k h (resL Tryz.prog fr h [.tmp 6]) := ret_of Tryz.func50 rfl rfl
theorem call_51 : CallT 51 Tryz.f51 := fun _ _ => R_call rfl rfl (by decide +kernel) rfl Tryz.func51 rfl
@[go_sem] theorem ret_51 (k : Nat) (fr : Fr) (h : Heap) : retOf K 51 k fr h = leaving 0 k h (resL Tryz.prog fr h [.cell 2 52, .tmp 3]) := ret_of Tryz.func51 rfl rfl
theorem call_52 : CallT 52 Tryz.f52 := fun _ _ => R_call rfl rfl (by decide +kernel) rfl Tryz.func52 rfl
@[go_sem] theorem ret_52 (k : Nat) (fr : Fr) (h : Heap) : retOf K 52 k fr h = leaving 0 k h (resL Tryz.prog fr h [.cell 2 52, .tmp 3]) := ret_of Tryz.func52 rfl rfl
theorem call_53 : CallT 53 Tryz.f53 := fun _ _ => R_call rfl rfl (by decide +kernel) rfl Tryz.func53 rfl
@[go_sem] theorem ret_53 (k : Nat) (fr : Fr) (h : Heap) : retOf K 53 k fr h = leaving 0 k h (resL Tryz.prog fr h [.tmp 2]) := ret_of Tryz.func53 rfl rfl
theorem call_54 : CallT 54 Tryz.f54 := fun _ _ => R_call rfl rfl (by decide +kernel) rfl Tryz.func54 rfl
@[go_sem] theorem ret_54 (k : Nat) (fr : Fr) (h : Heap) : retOf K 54 k fr h = leaving 0 k h (resL Tryz.prog fr h [.cell 2 23]) := ret_of Tryz.func54 rfl rfl
theorem call_55 : CallT 55 Tryz.f55 := fun _ _ => R_call rfl rfl (by decide +kernel) rfl Tryz.func55 rfl
@[go_sem] theorem ret_55 (k : Nat) (fr : Fr) (h : Heap) : retOf K 55 k fr h = leaving 0 k h (resL Tryz.prog fr h [.tmp 2]) := ret_of Tryz.func55 rfl rfl
theorem call_56 : CallT 56 Tryz.f56 := fun _ _ => R_call rfl rfl (by decide +kernel) rfl Tryz.func56 rfl
@[go_sem] theorem ret_56 (k : Nat) (fr : Fr) (h : Heap) : retOf K 56 k fr h = leaving 1 k h (resL Tryz.prog fr h [.tmp 2]) := ret_of Tryz.func56 rfl rfl
theorem call_57 : CallT 57 Tryz.f57 := fun _ _ => R_call rfl rfl (by decide +kernel) rfl Tryz.func57 rfl
@[go_sem] theorem ret_57 (k : Nat) (fr : Fr) (h : Heap) : retOf K 57 k fr h = leaving 0 k h (resL Tryz.prog fr h [.cell 2 23]) := ret_of Tryz.func57 rfl rfl
theorem call_61 : CallT 61 Tryz.f61 := fun _ _ => R_call rfl rfl (by decide +kernel) rfl Tryz.func61 rfl
@[go_sem] theorem ret_61 (k : Nat) (fr : Fr) (h : Heap) : retOf K 61 k fr h = leaving 0 k h (resL Tryz.prog fr h [.tmp 2]) := ret_of Tryz.func61 rfl rfl
theorem call_62 : CallT 62 Tryz.f62 := fun _ _ => R_call rfl rfl (by decide +kernel) rfl Tryz.func62 rfl
@[go_sem] theorem ret_62 (k : Nat) (fr : Fr) (h : Heap) : retOf K 62 k fr h = leaving 0 k h (resL Tryz.prog fr h [.cell 2 23]) := ret_of Tryz.func62 rfl rfl
theorem call_63 : CallT 63 Tryz.f63 := fun _ _ => R_call rfl rfl (by decide +kernel) rfl Tryz.func63 rfl
@[go_sem] theorem ret_63 (k : Nat) (fr : Fr) (h : Heap) : retOf K 63 k fr h = leaving 0 k h (resL Tryz.prog fr h [.tmp 2]) := ret_of Tryz.func63 rfl rfl
theorem call_64 : CallT 64 Tryz.f64 := fun _ _ => R_call rfl rfl (by decide +kernel) rfl Tryz.func64 rfl
@[go_sem] theorem ret_64 (k : Nat) (fr : Fr) (h : Heap) : retOf K 64 k fr h = leaving 0 k h (resL Tryz.prog fr h [.tmp 4]) := ret_of Tryz.func64 rfl rfl
theorem call_65 : CallT 65 Tryz.f65 := fun _ _ => R_call rfl rfl (by decide +kernel) rfl Tryz.func65 rfl
@[go_sem] theorem ret_65 (k : Nat) (fr : Fr) (h : Heap) : retOf K 65 k fr h = leaving 0 k h (resL Tryz.prog fr h [.cell 2 23]) := ret_of Tryz.func65 rfl rfl
theorem call_66 : CallT 66 Tryz.f66 := fun _ _ => R_call rfl rfl (by decide +kernel) rfl Tryz.func66 rfl
@[go_sem] theorem ret_66 (k : Nat) (fr : Fr) (h : Heap) : retOf K 66 k fr h = leaving 0 k h (resL Tryz.prog fr h [.tmp 2]) := ret_of Tryz.func66 rfl rfl
theorem call_67 : CallT 67 Tryz.f67 := fun _ _ => R_call rfl rfl (by decide +kernel) rfl Tryz.func67 rfl
@[go_sem] theorem ret_67 (k : Nat) (fr : Fr) (h : Heap) : retOf K 67 k fr h = leaving 0 k h (resL Tryz.prog fr h [.cell 4 23]) := ret_of Tryz.func67 rfl rfl
theorem call_68 : CallT 68 Tryz.f68 := fun _ _ => R_call rfl rfl (by decide +kernel) rfl Tryz.func68 rfl
@[go_sem] theorem ret_68 (k : Nat) (fr : Fr) (h : Heap) : retOf K 68 k fr h = leaving 0 k h (resL Tryz.prog fr h [.cell 2 23]) := ret_of Tryz.func68 rfl rfl
theorem call_69 : CallT 69 Tryz.f69 := fun _ _ => R_call rfl rfl (by decide +kernel) rfl Tryz.func69 rfl
@[go_sem] theorem ret_69 (k : Nat) (fr : Fr) (h : Heap) : retOf K 69 k fr h = leaving 0 k h (resL Tryz.prog fr h [.cell 4 23]) := ret_of Tryz.func69 rfl rfl
theorem call_70 : CallT 70 Tryz.f70 := fun _ _ => R_call rfl rfl (by decide +kernel) rfl Tryz.func70 rfl
theorem call_71 : CallT 71 Tryz.f71 := fun _ _ => R_call rfl rfl (by decide +kernel) rfl Tryz.func71 rfl
@[go_sem] theorem ret_71 (k : Nat) (fr : Fr) (h : Heap) : retOf K 71 k fr h = leaving 0 k h (resL Tryz.prog fr h [.cell 2 23]) := ret_of Tryz.func71 rfl rfl
theorem call_72 : CallT 72 Tryz.f72 := fun _ _ => R_call rfl rfl (by decide +kernel) rfl Tryz.func72 rfl
@[go_sem] theorem ret_72 (k : Nat) (fr : Fr) (h : Heap) : retOf K 72 k fr h = leaving 0 k h (resL Tryz.prog fr h [.cell 2 23]) := ret_of Tryz.func72 rfl rfl
theorem call_73 : CallT 73 Tryz.f73 := fun _ _ => R_call rfl rfl (by decide +kernel) rfl Tryz.func73 rfl
@[go_sem] theorem ret_73 (k : Nat) (fr : Fr) (h : Heap) : retOf K 73 k fr h = leaving 0 k h (resL Tryz.prog fr h [.cell 2 23]) := ret_of Tryz.func73 rfl rfl
theorem call_74 : CallT 74 Tryz.f74 := fun _ _ => R_call rfl rfl (by decide +kernel) rfl Tryz.func74 rfl
@[go_sem] theorem ret_74 (k : Nat) (fr : Fr) (h : Heap) : retOf K 74 k fr h = leaving 0 k h (resL Tryz.prog fr h [.tmp 6]) := ret_of Tryz.func74 rfl rfl
theorem call_75 : CallT 75 Tryz.f75 := fun _ _ => R_call rfl rfl (by decide +kernel) rfl Tryz.func75 rfl
@[go_sem] theorem ret_75 (k : Nat) (fr : Fr) (h : Heap) : retOf K 75 k fr h = leaving 0 k h (resL Tryz.prog fr h [.tmp 6]) := ret_of Tryz.func75 rfl rfl
theorem call_76 : CallT 76 Tryz.f76 := fun _ _ => R_call rfl rfl (by decide +kernel) rfl Tryz.func76 rfl
@[go_sem] theorem ret_76 (k : Nat) (fr : Fr) (h : Heap) : retOf K 76 k fr h = leaving 0 k h (resL Tryz.prog fr h [.tmp 4]) := ret_of Tryz.func76 rfl rfl
theorem call_77 : CallT 77 Tryz.f77 := fun _ _ => R_call rfl rfl (by decide +kernel) rfl Tryz.func77 rfl
theorem call_78 : CallT 78 Tryz.f78 := fun _ _ => R_call rfl rfl (by decide +kernel) rfl Tryz.func78 rfl
theorem call_79 : CallT 79 Tryz.f79 := fun _ _ => R_call rfl rfl (by decide +kernel) rfl Tryz.func79 rfl
theorem call_80 : CallT 80 Tryz.f80 := fun _ _ => R_call rfl rfl (by decide +kernel) rfl Tryz.func80 rfl
theorem call_81 : CallT 81 Tryz.f81 := fun _ _ => R_call rfl rfl (by decide +kernel) rfl Tryz.func81 rfl
theorem call_82 : CallT 82 Tryz.f82 := fun _ _ => R_call rfl rfl (by decide +kernel) rfl Tryz.func82 rfl
theorem call_83 : CallT 83 Tryz.f83 := fun _ _ => R_call rfl rfl (by decide +kernel) rfl Tryz.func83 rfl
theorem call_84 : CallT 84 Tryz.f84 := fun _ _ => R_call rfl rfl (by decide +kernel) rfl Tryz.func84 rfl
theorem call_85 : CallT 85 Tryz.f85 := fun _ _ => R_call rfl rfl (by decide +kernel) rfl Tryz.func85 rfl
@[go_sem] theorem ret_85 (k : Nat) (fr : Fr) (h : Heap) : retOf K 85 k fr h = leaving 0 k h (resL Tryz.prog fr h [.tmp 4]) := ret_of Tryz.func85 rfl rfl
theorem call_86 : CallT 86 Tryz.f86 := fun _ _ => R_call rfl rfl (by decide +kernel) rfl Tryz.func86 rfl
@[go_sem] theorem ret_86 (k : Nat) (fr : Fr) (h : Heap) : retOf K 86 k fr h = leaving 0 k h (resL Tryz.prog fr h [.tmp 4]) := ret_of Tryz.func86 rfl rfl
theorem call_87 : CallT 87 Tryz.f87 := fun _ _ => R_call rfl rfl (by decide +kernel) rfl Tryz.func87 rfl
@[go_sem] theorem ret_87 (k : Nat) (fr : Fr) (h : Heap) : retOf K 87 k fr h = leaving 0 k h (resL Tryz.prog fr h [.tmp 2]) := ret_of Tryz.func87 rfl rfl
theorem call_88 : CallT 88 Tryz.f88 := fun _ _ => R_call rfl rfl (by decide +kernel) rfl Tryz.func88 rfl
@[go_sem] theorem ret_88 (k : Nat) (fr : Fr) (h : Heap) : retOf K 88 k fr h = leaving 0 k h (resL Tryz.prog fr h [.tmp 4]) := ret_of Tryz.func88 rfl rfl
theorem call_89 : CallT 89 Tryz.f89 := fun _ _ => R_call rfl rfl (by decide +kernel) rfl Tryz.func89 rfl
@[go_sem] theorem ret_89 (k : Nat) (fr : Fr) (h : Heap) : retOf K 89 k fr h = leaving 0 k h (resL Tryz.prog fr h [.tmp 2]) := ret_of Tryz.func89 rfl rfl
theorem call_92 : CallT 92 Tryz.f92 := fun _ _ => R_call rfl rfl (by decide +kernel) rfl Tryz.func92 rfl
@[go_sem] theorem ret_92 (k : Nat) (fr : Fr) (h : Heap) : retOf K 92 k fr h = leaving 0 k h (resL Tryz.prog fr h [.tmp 4]) := ret_of Tryz.func92 rfl rfl
theorem call_93 : CallT 93 Tryz.f93 := fun _ _ => R_call rfl rfl (by decide +kernel) rfl Tryz.func93 rfl
@[go_sem] theorem ret_93 (k : Nat) (fr : Fr) (h : Heap) : retOf K 93 k fr h = leaving 0 k h (resL Tryz.prog fr h [.tmp 4]) := ret_of Tryz.func93 rfl rfl
theorem call_94 : CallT 94 Tryz.f94 := fun _ _ => R_call rfl rfl (by decide +kernel) rfl Tryz.func94 rfl
@[go_sem] theorem ret_94 (k : Nat) (fr : Fr) (h : Heap) : retOf K 94 k fr h = leaving 0 k h (resL Tryz.prog fr h [.tmp 2]) := ret_of Tryz.func94 rfl rfl
theorem call_95 : CallT 95 Tryz.f95 := fun _ _ => R_call rfl rfl (by decide +kernel) rfl Tryz.func95 rfl
@[go_sem] theorem ret_95 (k : Nat) (fr : Fr) (h : Heap) : retOf K 95 k fr h = leaving 1 k h (resL Tryz.prog fr h [.tmp 2]) := ret_of Tryz.func95 rfl rfl
theorem call_96 : CallT 96 Tryz.f96 := fun _ _ => R_call rfl rfl (by decide +kernel) rfl Tryz.func96 rfl
@[go_sem] theorem ret_96 (k : Nat) (fr : Fr) (h : Heap) : retOf K 96 k fr h = leaving 0 k h (resL Tryz.prog fr h [.cell 10 52]) := ret_of Tryz.func96 rfl rfl
theorem call_97 : CallT 97 Tryz.f97 := fun _ _ => R_call rfl rfl (by decide +kernel) rfl Tryz.func97 rfl
@[go_sem] theorem ret_97 (k : Nat) (fr : Fr) (h : Heap) : retOf K 97 k fr h = leaving 0 k h (resL Tryz.prog fr h [.cell 4 52]) := ret_of Tryz.func97 rfl rfl
theorem call_98 : CallT 98 Tryz.f98 := fun _ _ => R_call rfl rfl (by decide +kernel) rfl Tryz.func98 rfl
@[go_sem] theorem ret_98 (k : Nat) (fr : Fr) (h : Heap) : retOf K 98 k fr h = leaving 0 k h (resL Tryz.prog fr h [.cell 4 23]) := ret_of Tryz.func98 rfl rfl
theorem call_99 : CallT 99 Tryz.f99 := fun _ _ => R_call rfl rfl (by decide +kernel) rfl Tryz.func99 rfl
theorem call_100 : CallT 100 Tryz.f100 := fun _ _ => R_call rfl rfl (by decide +kernel) rfl Tryz.func100 rfl
@[go_sem] theorem ret_100 (k : Nat) (fr : Fr) (h : Heap) : retOf K 100 k fr h = leaving 0 k h (resL Tryz.prog fr h [.tmp 6]) := ret_of Tryz.func100 rfl rfl
theorem call_101 : CallT 101 Tryz.f101 := fun _ _ => R_call rfl rfl (by decide +kernel) rfl Tryz.func101 rfl
@[go_sem] theorem ret_101 (k : Nat) (fr : Fr) (h : Heap) : retOf K 101 k fr h = leaving 0 k h (resL Tryz.prog fr h [.tmp 2]) := ret_of Tryz.func101 rfl rfl
theorem call_102 : CallT 102 Tryz.f102 := fun _ _ => R_call rfl rfl (by decide +kernel) rfl Tryz.func102 rfl
@[go_sem] theorem ret_102 (k : Nat) (fr : Fr) (h : Heap) : retOf K 102 k fr h = leaving 0 k h (resL Tryz.prog fr h [.tmp 2]) := ret_of Tryz.func102 rfl rfl
theorem call_104 : CallT 104 Tryz.f104 := fun _ _ => R_call rfl rfl (by decide +kernel) rfl Tryz.func104 rfl
@[go_sem] theorem ret_104 (k : Nat) (fr : Fr) (h : Heap) : retOf K 104 k fr h = leaving 0 k h (resL Tryz.prog fr h [.tmp 2]) := ret_of Tryz.func104 rfl rfl
theorem call_105 : CallT 105 Tryz.f105 := fun _ _ => R_call rfl rfl (by decide +kernel) rfl Tryz.func105 rfl
@[go_sem] theorem ret_105 (k : Nat) (fr : Fr) (h : Heap) : retOf K 105 k fr h = leaving 0 k h (resL Tryz.prog fr h [.tmp 4, .tmp 5]) := ret_of Tryz.func105 rfl rfl
theorem call_106 : CallT 106 Tryz.f106 := fun _ _ => R_call rfl rfl (by decide +kernel) rfl Tryz.func106 rfl
@[go_sem] theorem ret_106 (k : Nat) (fr : Fr) (h : Heap) : retOf K 106 k fr h = leaving 0 k h (resL Tryz.prog fr h [.cell 4 23]) := ret_of Tryz.func106 rfl rfl
theorem call_107 : CallT 107 Tryz.f107 := fun _ _ => R_call rfl rfl (by decide +kernel) rfl Tryz.func107 rfl
theorem call_108 : CallT 108 Tryz.f108 := fun _ _ => R_call rfl rfl (by decide +kernel) rfl Tryz.func108 rfl
@[go_sem] theorem ret_108 (k : Nat) (fr : Fr) (h : Heap) : retOf K 108 k fr h = leaving 0 k h (resL Tryz.prog fr h [.tmp 8, .tmp 9]) := ret_of Tryz.func108 rfl rfl
theorem call_109 : CallT 109 Tryz.f109 := fun _ _ => R_call rfl rfl (by decide +kernel) rfl Tryz.func109 rfl
theorem call_110 : CallT 110 Tryz.f110 := fun _ _ => R_call rfl rfl (by decide +kernel) rfl Tryz.func110 rfl
theorem call_111 : CallT 111 Tryz.f111 := fun _ _ => R_call rfl rfl (by decide +kernel) rfl Tryz.func111 rfl
@[go_sem] theorem ret_111 (k : Nat) (fr : Fr) (h : Heap) : retOf K 111 k fr h = leaving 0 k h (resL Tryz.prog fr h [.tmp 4, .tmp 5]) := ret_of Tryz.func111 rfl rfl
theorem call_112 : CallT 112 Tryz.f112 := fun _ _ => R_call rfl rfl (by decide +kernel) rfl Tryz.func112 rfl
@[go_sem] theorem ret_112 (k : Nat) (fr : Fr) (h : Heap) : retOf K 112 k fr h = leaving 0 k h (resL Tryz.prog fr h [.tmp 2, .tmp 3]) := ret_of Tryz.func112 rfl rfl
theorem call_113 : CallT 113 Tryz.f113 := fun _ _ => R_call rfl rfl (by decide +kernel) rfl Tryz.func113 rfl
@[go_sem] theorem ret_113 (k : Nat) (fr : Fr) (h : Heap) : retOf K 113 k fr h = leaving 0 k h (resL Tryz.prog fr h [.tmp 2]) := ret_of Tryz.func113 rfl rfl
theorem call_114 : CallT 114 Tryz.f114 := fun _ _ => R_call rfl rfl (by decide +kernel) rfl Tryz.func114 rfl
@[go_sem] theorem ret_114 (k : Nat) (fr : Fr) (h : Heap) : retOf K 114 k fr h = leaving 0 k h (resL Tryz.prog fr h [.cell 4 52, .tmp 5]) := ret_of Tryz.func114 rfl rfl
theorem call_115 : CallT 115 Tryz.f115 := fun _ _ => R_call rfl rfl (by decide +kernel) rfl Tryz.func115 rfl
@[go_sem] theorem ret_115 (k : Nat) (fr : Fr) (h : Heap) : retOf K 115 k fr h = leaving 0 k h (resL Tryz.prog fr h [.cell 4 52]) := ret_of Tryz.func115 rfl rfl
theorem call_117 : CallT 117 Tryz.f117 := fun _ _ => R_call rfl rfl (by decide +kernel) rfl Tryz.func117 rfl
@[go_sem] theorem ret_117 (k : Nat) (fr : Fr) (h : Heap) : retOf K 117 k fr h = leaving 0 k h (resL Tryz.prog fr h [.cell 2 23]) := ret_of Tryz.func117 rfl rfl
theorem call_119 : CallT 119 Tryz.f119 := fun _ _ => R_call rfl rfl (by decide +kernel) rfl Tryz.func119 rfl
@[go_sem] theorem ret_119 (k : Nat) (fr : Fr) (h : Heap) : retOf K 119 k fr h = leaving 0 k h (resL Tryz.prog fr h [.tmp 2]) := ret_of Tryz.func119 rfl rfl
theorem call_120 : CallT 120 Tryz.f120 := fun _ _ => R_call rfl rfl (by decide +kernel) rfl Tryz.func120 rfl
@[go_sem] theorem ret_120 (k : Nat) (fr : Fr) (h : Heap) : retOf K 120 k fr h = leaving 0 k h (resL Tryz.prog fr h [.tmp 2]) := ret_of Tryz.func120 rfl rfl
theorem call_121 : CallT 121 Tryz.f121 := fun _ _ => R_call rfl rfl (by decide +kernel) rfl Tryz.func121 rfl
@[go_sem] theorem ret_121 (k : Nat) (fr : Fr) (h : Heap) : retOf K 121 k fr h = leaving 0 k h (resL Tryz.prog fr h [.cell 2 23]) := ret_of Tryz.func121 rfl rfl
theorem call_122 : CallT 122 Tryz.f122 := fun _ _ => R_call rfl rfl (by decide +kernel) rfl Tryz.func122 rfl
@[go_sem] theorem ret_122 (k : Nat) (fr : Fr) (h : Heap) : retOf K 122 k fr h = leaving 0 k h (resL Tryz.prog fr h [.cell 2 23, .tmp 3]) := ret_of Tryz.func122 rfl rfl
theorem call_127 : CallT 127 Tryz.f127 := fun _ _ => R_call rfl rfl (by decide +kernel) rfl Tryz.func127 rfl
@[go_sem] theorem ret_127 (k : Nat) (fr : Fr) (h : Heap) : retOf K 127 k fr h = leaving 0 k h (resL Tryz.prog fr h [.cell 2 122]) := ret_of Tryz.func127 rfl rfl
theorem call_128 : CallT 128 Tryz.f128 := fun _ _ => R_call rfl rfl (by decide +kernel) rfl Tryz.func128 rfl
@[go_sem] theorem ret_128 (k : Nat) (fr : Fr) (h : Heap) : retOf K 128 k fr h = leaving 0 k h (resL Tryz.prog fr h [.tmp 4]) := ret_of Tryz.func128 rfl rfl
theorem call_129 : CallT 129 Tryz.f129 := fun _ _ => R_call rfl rfl (by decide +kernel) rfl Tryz.func129 rfl
@[go_sem] theorem ret_129 (k : Nat) (fr : Fr) (h : Heap) : retOf K 129 k fr h = leaving 0 k h (resL Tryz.prog fr h [.tmp 2]) := ret_of Tryz.func129 rfl rfl
theorem call_130 : CallT 130 Tryz.f130 := fun _ _ => R_call rfl rfl (by decide +kernel) rfl Tryz.func130 rfl
@[go_sem] theorem ret_130 (k : Nat) (fr : Fr) (h : Heap) : retOf K 130 k fr h = leaving 0 k h (resL Tryz.prog fr h [.cell 2 122]) := ret_of Tryz.func130 rfl rfl
theorem call_131 : CallT 131 Tryz.f131 := fun _ _ => R_call rfl rfl (by decide +kernel) rfl Tryz.func131 rfl
@[go_sem] theorem ret_131 (k : Nat) (fr : Fr) (h : Heap) : retOf K 131 k fr h = leaving 0 k h (resL Tryz.prog fr h [.tmp 4]) := ret_of Tryz.func131 rfl rfl
theorem call_132 : CallT 132 Tryz.f132 := fun _ _ => R_call rfl rfl (by decide +kernel) rfl Tryz.func132 rfl
theorem call_134 : CallT 134 Tryz.f134 := fun _ _ => R_call rfl rfl (by decide +kernel) rfl Tryz.func134 rfl
theorem call_135 : CallT 135 Tryz.f135 := fun _ _ => R_call rfl rfl (by decide +kernel) rfl Tryz.func135 rfl
theorem call_136 : CallT 136 Tryz.f136 := fun _ _ => R_call rfl rfl (by decide +kernel) rfl Tryz.func136 rfl
@[go_sem] theorem ret_136 (k : Nat) (fr : Fr) (h : Heap) : retOf K 136 k fr h = leaving 0 k h (resL Tryz.prog fr h [.cell 12 23]) := ret_of Tryz.func136 rfl rfl
theorem call_137 : CallT 137 Tryz.f137 := fun _ _ => R_call rfl rfl (by decide +kernel) rfl Tryz.func137 rfl
@[go_sem] theorem ret_137 (k : Nat) (fr : Fr) (h : Heap) : retOf K 137 k fr h = leaving 0 k h (resL Tryz.prog fr h [.tmp 2]) := ret_of Tryz.func137 rfl rfl
theorem call_138 : CallT 138 Tryz.f138 := fun _ _ => R_call rfl rfl (by decide +kernel) rfl Tryz.func138 rfl
@[go_sem] theorem ret_138 (k : Nat) (fr : Fr) (h : Heap) : retOf K 138 k fr h = leaving 0 k h (resL Tryz.prog fr h [.tmp 4]) := ret_of Tryz.func138 rfl rfl
theorem call_139 : CallT 139 Tryz.f139 := fun _ _ => R_call rfl rfl (by decide +kernel) rfl Tryz.func139 rfl
@[go_sem] theorem ret_139 (k : Nat) (fr : Fr) (h : Heap) : retOf K 139 k fr h = leaving 0 k h (resL Tryz.prog fr h [.tmp 4]) := ret_of Tryz.func139 rfl rfl
theorem call_141 : CallT 141 Tryz.f141 := fun _ _ => R_call rfl rfl (by decide +kernel) rfl Tryz.func141 rfl
@[go_sem] theorem ret_141 (k : Nat) (fr : Fr) (h : Heap) : retOf K 141 k fr h = leaving 0 k h (resL Tryz.prog fr h [.tmp 4, .tmp 5]) := ret_of Tryz.func141 rfl rfl
theorem call_142 : CallT 142 Tryz.f142 := fun _ _ => R_call rfl rfl (by decide +kernel) rfl Tryz.func142 rfl
@[go_sem] theorem ret_142 (k : Nat) (fr : Fr) (h : Heap) : retOf K 142 k fr h = leaving 0 k h (resL Tryz.prog fr h [.tmp 4]) := ret_of Tryz.func142 rfl rfl
theorem call_147 : CallT 147 Tryz.f147 := fun _ _ => R_call rfl rfl (by decide +kernel) rfl Tryz.func147 rfl
@[go_sem] theorem ret_147 (k : Nat) (fr : Fr) (h : Heap) : retOf K 147 k fr h = leaving 0 k h (resL Tryz.prog fr h [.cell 8 52]) := ret_of Tryz.func147 rfl rfl
theorem call_148 : CallT 148 Tryz.f148 := fun _ _ => R_call rfl rfl (by decide +kernel) rfl Tryz.func148 rfl
@[go_sem] theorem ret_148 (k : Nat) (fr : Fr) (h : Heap) : retOf K 148 k fr h = leaving 0 k h (resL Tryz.prog fr h [.cell 6 52]) := ret_of Tryz.func148 rfl rfl
theorem call_149 : CallT 149 Tryz.f149 := fun _ _ => R_call rfl rfl (by decide +kernel) rfl Tryz.func149 rfl
@[go_sem] theorem ret_149 (k : Nat) (fr : Fr) (h : Heap) : retOf K 149 k fr h = leaving 0 k h (resL Tryz.prog fr h [.cell 4 52]) := ret_of Tryz.func149 rfl rfl
theorem call_150 : CallT 150 Tryz.f150 := fun _ _ => R_call rfl rfl (by decide +kernel) rfl Tryz.func150 rfl
@[go_sem] theorem ret_150 (k : Nat) (fr : Fr) (h : Heap) : retOf K 150 k fr h = leaving 0 k h (resL Tryz.prog fr h [.cell 8 52]) := ret_of Tryz.func150 rfl rfl
theorem call_151 : CallT 151 Tryz.f151 := fun _ _ => R_call rfl rfl (by decide +kernel) rfl Tryz.func151 rfl
@[go_sem] theorem ret_151 (k : Nat) (fr : Fr) (h : Heap) : retOf K 151 k fr h = leaving 0 k h (resL Tryz.prog fr h [.cell 8 52]) := ret_of Tryz.func151 rfl rfl
theorem call_152 : CallT 152 Tryz.f152 := fun _ _ => R_call rfl rfl (by decide +kernel) rfl Tryz.func152 rfl
@[go_sem] theorem ret_152 (k : Nat) (fr : Fr) (h : Heap) : retOf K 152 k fr h = leaving 0 k h (resL Tryz.prog fr h [.cell 2 52]) := ret_of Tryz.func152 rfl rfl
theorem call_154 : CallT 154 Tryz.f154 := fun _ _ => R_call rfl rfl (by decide +kernel) rfl Tryz.func154 rfl
@[go_sem] theorem ret_154 (k : Nat) (fr : Fr) (h : Heap) : retOf K 154 k fr h = leaving 0 k h (resL Tryz.prog fr h [.tmp 2]) := ret_of Tryz.func154 rfl rfl
theorem call_155 : CallT 155 Tryz.f155 := fun _ _ => R_call rfl rfl (by decide +kernel) rfl Tryz.func155 rfl
@[go_sem] theorem ret_155 (k : Nat) (fr : Fr) (h : Heap) : retOf K 155 k fr h = leaving 0 k h (resL Tryz.prog fr h [.tmp 6]) := ret_of Tryz.func155 rfl rfl
theorem call_156 : CallT 156 Tryz.f156 := fun _ _ => R_call rfl rfl (by decide +kernel) rfl Tryz.func156 rfl
@[go_sem] theorem ret_156 (k : Nat) (fr : Fr) (h : Heap) : retOf K 156 k fr h = leaving 0 k h (resL Tryz.prog fr h [.tmp 2]) := ret_of Tryz.func156 rfl rfl
theorem call_157 : CallT 157 Tryz.f157 := fun _ _ => R_call rfl rfl (by decide +kernel) rfl Tryz.func157 rfl
@[go_sem] theorem ret_157 (k : Nat) (fr : Fr) (h : Heap) : retOf K 157 k fr h = leaving 0 k h (resL Tryz.prog fr h [.tmp 4]) := ret_of Tryz.func157 rfl rfl
theorem call_158 : CallT 158 Tryz.f158 := fun _ _ => R_call rfl rfl (by decide +kernel) rfl Tryz.func158 rfl
@[go_sem] theorem ret_158 (k : Nat) (fr : Fr) (h : Heap) : retOf K 158 k fr h = leaving 0 k h (resL Tryz.prog fr h [.tmp 4]) := ret_of Tryz.func158 rfl rfl
theorem call_159 : CallT 159 Tryz.f159 := fun _ _ => R_call rfl rfl (by decide +kernel) rfl Tryz.func159 rfl
@[go_sem] theorem ret_159 (k : Nat) (fr : Fr) (h : Heap) : retOf K 159 k fr h = leaving 0 k h (resL Tryz.prog fr h [.tmp 4, .tmp 5]) := ret_of Tryz.func159 rfl rfl
theorem call_160 : CallT 160 Tryz.f160 := fun _ _ => R_call rfl rfl (by decide +kernel) rfl Tryz.func160 rfl
@[go_sem] theorem ret_160 (k : Nat) (fr : Fr) (h : Heap) : retOf K 160 k fr h = leaving 0 k h (resL Tryz.prog fr h [.tmp 2, .tmp 3]) := ret_of Tryz.func160 rfl rfl
theorem call_161 : CallT 161 Tryz.f161 := fun _ _ => R_call rfl rfl (by decide +kernel) rfl Tryz.func161 rfl
@[go_sem] theorem ret_161 (k : Nat) (fr : Fr) (h : Heap) : retOf K 161 k fr h = leaving 0 k h (resL Tryz.prog fr h [.tmp 2, .tmp 3]) := ret_of Tryz.func161 rfl rfl
theorem call_162 : CallT 162 Tryz.f162 := fun _ _ => R_call rfl rfl (by decide +kernel) rfl Tryz.func162 rfl
@[go_sem] theorem ret_162 (k : Nat) (fr : Fr) (h : Heap) : retOf K 162 k fr h = leaving 0 k h (resL Tryz.prog fr h [.cell 6 23]) := ret_of Tryz.func162 rfl rfl
theorem call_163 : CallT 163 Tryz.f163 := fun _ _ => R_call rfl rfl (by decide +kernel) rfl Tryz.func163 rfl
@[go_sem] theorem ret_163 (k : Nat) (fr : Fr) (h : Heap) : retOf K 163 k fr h = leaving 0 k h (resL Tryz.prog fr h [.cell 2 23]) := ret_of Tryz.func163 rfl rfl
theorem call_164 : CallT 164 Tryz.f164 := fun _ _ => R_call rfl rfl (by decide +kernel) rfl Tryz.func164 rfl
@[go_sem] theorem ret_164 (k : Nat) (fr : Fr) (h : Heap) : retOf K 164 k fr h = leaving 0 k h (resL Tryz.prog fr h [.cell 4 23]) := ret_of Tryz.func164 rfl rfl
theorem call_165 : CallT 165 Tryz.f165 := fun _ _ => R_call rfl rfl (by decide +kernel) rfl Tryz.func165 rfl
@[go_sem] theorem ret_165 (k : Nat) (fr : Fr) (h : Heap) : retOf K 165 k fr h = leaving 0 k h (resL Tryz.prog fr h [.tmp 2]) := ret_of Tryz.func165 rfl rfl
theorem call_166 : CallT 166 Tryz.f166 := fun _ _ => R_call rfl rfl (by decide +kernel) rfl Tryz.func166 rfl
@[go_sem] theorem ret_166 (k : Nat) (fr : Fr) (h : Heap) : retOf K 166 k fr h = leaving 0 k h (resL Tryz.prog fr h [.tmp 8, .tmp 9]) := ret_of Tryz.func166 rfl rfl
theorem call_167 : CallT 167 Tryz.f167 := fun _ _ => R_call rfl rfl (by decide +kernel) rfl Tryz.func167 rfl
@[go_sem] theorem ret_167 (k : Nat) (fr : Fr) (h : Heap) : retOf K 167 k fr h = leaving 0 k h (resL Tryz.prog fr h [.tmp 4, .tmp 5]) := ret_of Tryz.func167 rfl rfl
theorem call_168 : CallT 168 Tryz.f168 := fun _ _ => R_call rfl rfl (by decide +kernel) rfl Tryz.func168 rfl
@[go_sem] theorem ret_168 (k : Nat) (fr : Fr) (h : Heap) : retOf K 168 k fr h = leaving 0 k h (resL Tryz.prog fr h [.tmp 4, .tmp 5]) := ret_of Tryz.func168 rfl rfl
theorem call_169 : CallT 169 Tryz.f169 := fun _ _ => R_call rfl rfl (by decide +kernel) rfl Tryz.func169 rfl
@[go_sem] theorem ret_169 (k : Nat) (fr : Fr) (h : Heap) : retOf K 169 k fr h = leaving 0 k h (resL Tryz.prog fr h [.tmp 6]) := ret_of Tryz.func169 rfl rfl
theorem call_170 : CallT 170 Tryz.f170 := fun _ _ => R_call rfl rfl (by decide +kernel) rfl Tryz.func170 rfl
theorem call_171 : CallT 171 Tryz.f171 := fun _ _ => R_call rfl rfl (by decide +kernel) rfl Tryz.func171 rfl
@[go_sem] theorem ret_171 (k : Nat) (fr : Fr) (h : Heap) : retOf K 171 k fr h = leaving 0 k h (resL Tryz.prog fr h [.tmp 4]) := ret_of Tryz.func171 rfl rfl
theorem call_172 (args : List AV) (h : Heap) : R K (.call 172 args h) = R K (.run 172 (ownedB (entry 0 args) h [(0, 1, 5)]).length [.code (Tryz.f172.body.getD .skip)] (entry 0 args) (ownedB (entry 0 args) h [(0, 1, 5)])) := R_callO rfl rfl (by decide +kernel) rfl Tryz.func172 rfl
@[go_sem] theorem ret_172 (k : Nat) (fr : Fr) (h : Heap) : retOf K 172 k fr h = leaving 0 k h (resL Tryz.prog fr h []) := ret_of Tryz.func172 rfl rfl
theorem call_174 : CallT 174 Tryz.f174 := fun _ _ => R_call rfl rfl (by decide +kernel) rfl Tryz.func174 rfl
@[go_sem] theorem ret_174 (k : Nat) (fr : Fr) (h : Heap) : retOf K 174 k fr h = leaving 0 k h (resL Tryz.prog fr h [.tmp 0]) := ret_of Tryz.func174 rfl rfl
theorem call_175 : CallT 175 Tryz.f175 := fun _ _ => R_call rfl rfl (by decide +kernel) rfl Tryz.func175 rfl
@[go_sem] theorem ret_175 (k : Nat) (fr : Fr) (h : Heap) : retOf K 175 k fr h = leaving 0 k h (resL Tryz.prog fr h [.tmp 2]) := ret_of Tryz.func175 rfl rfl
theorem call_176 : CallT 176 Tryz.f176 := fun _ _ => R_call rfl rfl (by decide +kernel) rfl Tryz.func176 rfl
@[go_sem] theorem ret_176 (k : Nat) (fr : Fr) (h : Heap) : retOf K 176 k fr h = leaving 0 k h (resL Tryz.prog fr h [.cell 2 52]) := ret_of Tryz.func176 rfl rfl
theorem call_180 : CallT 180 Tryz.f180 := fun _ _ => R_call rfl rfl (by decide +kernel) rfl Tryz.func180 rfl
@[go_sem] theorem ret_180 (k : Nat) (fr : Fr) (h : Heap) : retOf K 180 k fr h = leaving 0 k h (resL Tryz.prog fr h [.tmp 4]) := ret_of Tryz.func180 rfl rfl
theorem call_181 : CallT 181 Tryz.f181 := fun _ _ => R_call rfl rfl (by decide +kernel) rfl Tryz.func181 rfl
@[go_sem] theorem ret_181 (k : Nat) (fr : Fr) (h : Heap) : retOf K 181 k fr h = leaving 0 k h (resL Tryz.prog fr h [.tmp 2]) := ret_of Tryz.func181 rfl rfl
theorem call_182 : CallT 182 Tryz.f182 := fun _ _ => R_call rfl rfl (by decide +kernel) rfl Tryz.func182 rfl
@[go_sem] theorem ret_182 (k : Nat) (fr : Fr) (h : Heap) : retOf K 182 k fr h = leaving 0 k h (resL Tryz.prog fr h [.tmp 4]) := ret_of Tryz.func182 rfl rfl
theorem call_183 : CallT 183 Tryz.f183 := fun _ _ => R_call rfl rfl (by decide +kernel) rfl Tryz.func183 rfl
@[go_sem] theorem ret_183 (k : Nat) (fr : Fr) (h : Heap) : retOf K 183 k fr h = leaving 0 k h (resL Tryz.prog fr h [.cell 12 23]) := ret_of Tryz.func183 rfl rfl
theorem call_186 : CallT 186 Tryz.f186 := fun _ _ => R_call rfl rfl (by decide +kernel) rfl Tryz.func186 rfl
@[go_sem] theorem ret_186 (k : Nat) (fr : Fr) (h : Heap) : retOf K 186 k fr h = leaving 0 k h (resL Tryz.prog fr h [.tmp 4]) := ret_of Tryz.func186 rfl rfl
theorem call_191 : CallT 191 Tryz.f191 := fun _ _ => R_call rfl rfl (by decide +kernel) rfl Tryz.func191 rfl
@[go_sem] theorem ret_191 (k : Nat) (fr : Fr) (h : Heap) : retOf K 191 k fr h = leaving 0 k h (resL Tryz.prog fr h [.tmp 2]) := ret_of Tryz.func191 rfl rfl
theorem call_192 : CallT 192 Tryz.f192 := fun _ _ => R_call rfl rfl (by decide +kernel) rfl Tryz.func192 rfl
@[go_sem] theorem ret_192 (k : Nat) (fr : Fr) (h : Heap) : retOf K 192 k fr h = leaving 0 k h (resL Tryz.prog fr h [.tmp 4]) := ret_of Tryz.func192 rfl rfl
theorem call_193 : CallT 193 Tryz.f193 := fun _ _ => R_call rfl rfl (by decide +kernel) rfl Tryz.func193 rfl
@[go_sem] theorem ret_193 (k : Nat) (fr : Fr) (h : Heap) : retOf K 193 k fr h = leaving 0 k h (resL Tryz.prog fr h [.tmp 4]) := ret_of Tryz.func193 rfl rfl
theorem call_194 : CallT 194 Tryz.f194 := fun _ _ => R_call rfl rfl (by decide +kernel) rfl Tryz.func194 rfl
@[go_sem] theorem ret_194 (k : Nat) (fr : Fr) (h : Heap) : retOf K 194 k fr h = leaving 0 k h (resL Tryz.prog fr h [.tmp 2]) := ret_of Tryz.func194 rfl rfl
theorem call_195 : CallT 195 Tryz.f195 := fun _ _ => R_call rfl rfl (by decide +kernel) rfl Tryz.func195 rfl
@[go_sem] theorem ret_195 (k : Nat) (fr : Fr) (h : Heap) : retOf K 195 k fr h = leaving 0 k h (resL Tryz.prog fr h [.tmp 4]) := ret_of Tryz.func195 rfl rfl
theorem call_197 : CallT 197 Tryz.f197 := fun _ _ => R_call rfl rfl (by decide +kernel) rfl Tryz.func197 rfl
theorem call_198 : CallT 198 Tryz.f198 := fun _ _ => R_call rfl rfl (by decide +kernel) rfl Tryz.func198 rfl
theorem call_199 : CallT 199 Tryz.f199 := fun _ _ => R_call rfl rfl (by decide +kernel) rfl Tryz.func199 rfl
theorem call_200 : CallT 200 Tryz.f200 := fun _ _ => R_call rfl rfl (by decide +kernel) rfl Tryz.func200 rfl
@[go_sem] theorem ret_200 (k : Nat) (fr : Fr) (h : Heap) : retOf K 200 k fr h = leaving 0 k h (resL Tryz.prog fr h [.tmp 2]) := ret_of Tryz.func200 rfl rfl
theorem call_201 : CallT 201 Tryz.f201 := fun _ _ => R_call rfl rfl (by decide +kernel) rfl Tryz.func201 rfl
@[go_sem] theorem ret_201 (k : Nat) (fr : Fr) (h : Heap) : retOf K 201 k fr h = leaving 0 k h (resL Tryz.prog fr h [.tmp 2]) := ret_of Tryz.func201 rfl rfl
theorem call_208 : CallT 208 Tryz.f208 := fun _ _ => R_call rfl rfl (by decide +kernel) rfl Tryz.func208 rfl
@[go_sem] theorem ret_208 (k : Nat) (fr : Fr) (h : Heap) : retOf K 208 k fr h = leaving 0 k h (resL Tryz.prog fr h [.cell 6 52]) := ret_of Tryz.func208 rfl rfl
theorem call_209 : CallT 209 Tryz.f209 := fun _ _ => R_call rfl rfl (by decide +kernel) rfl Tryz.func209 rfl
@[go_sem] theorem ret_209 (k : Nat) (fr : Fr) (h : Heap) : retOf K 209 k fr h = leaving 0 k h (resL Tryz.prog fr h [.cell 6 52]) := ret_of Tryz.func209 rfl rfl
theorem call_212 : CallT 212 Tryz.f212 := fun _ _ => R_call rfl rfl (by decide +kernel) rfl Tryz.func212 rfl
@[go_sem] theorem ret_212 (k : Nat) (fr : Fr) (h : Heap) : retOf K 212 k fr h = leaving 0 k h (resL Tryz.prog fr h [.tmp 2]) := ret_of Tryz.func212 rfl rfl
theorem call_213 : CallT 213 Tryz.f213 := fun _ _ => R_call rfl rfl (by decide +kernel) rfl Tryz.func213 rfl
@[go_sem] theorem ret_213 (k : Nat) (fr : Fr) (h : Heap) : retOf K 213 k fr h = leaving 0 k h (resL Tryz.prog fr h [.tmp 2]) := ret_of Tryz.func213 rfl rfl
theorem call_214 : CallT 214 Tryz.f214 := fun _ _ => R_call rfl rfl (by decide +kernel) rfl Tryz.func214 rfl
@[go_sem] theorem ret_214 (k : Nat) (fr : Fr) (h : Heap) : retOf K 214 k fr h = leaving 0 k h (resL Tryz.prog fr h [.tmp 2]) := ret_of Tryz.func214 rfl rfl
theorem call_215 : CallT 215 Tryz.f215 := fun _ _ => R_call rfl rfl (by decide +kernel) rfl Tryz.func215 rfl
@[go_sem] theorem ret_215 (k : Nat) (fr : Fr) (h : Heap) : retOf K 215 k fr h = leaving 0 k h (resL Tryz.prog fr h [.tmp 4]) := ret_of Tryz.func215 rfl rfl
theorem call_216 : CallT 216 Tryz.f216 := fun _ _ => R_call rfl rfl (by decide +kernel) rfl Tryz.func216 rfl
@[go_sem] theorem ret_216 (k : Nat) (fr : Fr) (h : Heap) : retOf K 216 k fr h = leaving 0 k h (resL Tryz.prog fr h [.tmp 4, .tmp 5]) := ret_of Tryz.func216 rfl rfl
theorem call_217 : CallT 217 Tryz.f217 := fun _ _ => R_call rfl rfl (by decide +kernel) rfl Tryz.func217 rfl
@[go_sem] theorem ret_217 (k : Nat) (fr : Fr) (h : Heap) : retOf K 217 k fr h = leaving 0 k h (resL Tryz.prog fr h [.cell 4 23]) := ret_of Tryz.func217 rfl rfl
theorem call_218 : CallT 218 Tryz.f218 := fun _ _ => R_call rfl rfl (by decide +kernel) rfl Tryz.func218 rfl
@[go_sem] theorem ret_218 (k : Nat) (fr : Fr) (h : Heap) : retOf K 218 k fr h = leaving 0 k h (resL Tryz.prog fr h [.cell 4 23]) := ret_of Tryz.func218 rfl rfl
theorem call_219 : CallT 219 Tryz.f219 := fun _ _ => R_call rfl rfl (by decide +kernel) rfl Tryz.func219 rfl
@[go_sem] theorem ret_219 (k : Nat) (fr : Fr) (h : Heap) : retOf K 219 k fr h = leaving 0 k h (resL Tryz.prog fr h [.tmp 4]) := ret_of Tryz.func219 rfl rfl
theorem call_220 : CallT 220 Tryz.f220 := fun _ _ => R_call rfl rfl (by decide +kernel) rfl Tryz.func220 rfl
@[go_sem] theorem ret_220 (k : Nat) (fr : Fr) (h : Heap) : retOf K 220 k fr h = leaving 0 k h (resL Tryz.prog fr h [.tmp 2, .tmp 3]) := ret_of Tryz.func220 rfl rfl
theorem call_221 : CallT 221 Tryz.f221 := fun _ _ => R_call rfl rfl (by decide +kernel) rfl Tryz.func221 rfl
@[go_sem] theorem ret_221 (k : Nat) (fr : Fr) (h : Heap) : retOf K 221 k fr h = leaving 0 k h (resL Tryz.prog fr h [.tmp 2]) := ret_of Tryz.func221 rfl rfl
theorem call_222 : CallT 222 Tryz.f222 := fun _ _ => R_call rfl rfl (by decide +kernel) rfl Tryz.func222 rfl
@[go_sem] theorem ret_222 (k : Nat) (fr : Fr) (h : Heap) : retOf K 222 k fr h = leaving 0 k h (resL Tryz.prog fr h [.tmp 5, .tmp 6]) := ret_of Tryz.func222 rfl rfl
theorem call_223 : CallT 223 Tryz.f223 := fun _ _ => R_call rfl rfl (by decide +kernel) rfl Tryz.func223 rfl
@[go_sem] theorem ret_223 (k : Nat) (fr : Fr) (h : Heap) : retOf K 223 k fr h = leaving 0 k h (resL Tryz.prog fr h [.tmp 2, .tmp 3]) := ret_of Tryz.func223 rfl rfl
theorem call_224 : CallT 224 Tryz.f224 := fun _ _ => R_call rfl rfl (by decide +kernel) rfl Tryz.func224 rfl
@[go_sem] theorem ret_224 (k : Nat) (fr : Fr) (h : Heap) : retOf K 224 k fr h = leaving 0 k h (resL Tryz.prog fr h [.tmp 6, .tmp 7]) := ret_of Tryz.func224 rfl rfl
theorem call_225 : CallT 225 Tryz.f225 := fun _ _ => R_call rfl rfl (by decide +kernel) rfl Tryz.func225 rfl
@[go_sem] theorem ret_225 (k : Nat) (fr : Fr) (h : Heap) : retOf K 225 k fr h = leaving 0 k h (resL Tryz.prog fr h [.tmp 4]) := ret_of Tryz.func225 rfl rfl
theorem call_226 : CallT 226 Tryz.f226 := fun _ _ => R_call rfl rfl (by decide +kernel) rfl Tryz.func226 rfl
@[go_sem] theorem ret_226 (k : Nat) (fr : Fr) (h : Heap) : retOf K 226 k fr h = leaving 0 k h (resL Tryz.prog fr h [.tmp 4]) := ret_of Tryz.func226 rfl rfl
theorem call_227 : CallT 227 Tryz.f227 := fun _ _ => R_call rfl rfl (by decide +kernel) rfl Tryz.func227 rfl
@[go_sem] theorem ret_227 (k : Nat) (fr : Fr) (h : Heap) : retOf K 227 k fr h = leaving 0 k h (resL Tryz.prog fr h [.tmp 2]) := ret_of Tryz.func227 rfl rfl
theorem call_228 : CallT 228 Tryz.f228 := fun _ _ => R_call rfl rfl (by decide +kernel) rfl Tryz.func228 rfl
@[go_sem] theorem ret_228 (k : Nat) (fr : Fr) (h : Heap) : retOf K 228 k fr h = leaving 0 k h (resL Tryz.prog fr h [.tmp 2]) := ret_of Tryz.func228 rfl rfl
theorem call_229 : CallT 229 Tryz.f229 := fun _ _ => R_call rfl rfl (by decide +kernel) rfl Tryz.func229 rfl
@[go_sem] theorem ret_229 (k : Nat) (fr : Fr) (h : Heap) : retOf K 229 k fr h = leaving 0 k h (resL Tryz.prog fr h [.tmp 2]) := ret_of Tryz.func229 rfl rfl
theorem call_230 : CallT 230 Tryz.f230 := fun _ _ => R_call rfl rfl (by decide +kernel) rfl Tryz.func230 rfl
@[go_sem] theorem ret_230 (k : Nat) (fr : Fr) (h : Heap) : retOf K 230 k fr h = leaving 0 k h (resL Tryz.prog fr h [.tmp 2]) := ret_of Tryz.func230 rfl rfl
theorem call_231 : CallT 231 Tryz.f231 := fun _ _ => R_call rfl rfl (by decide +kernel) rfl Tryz.func231 rfl
@[go_sem] theorem ret_231 (k : Nat) (fr : Fr) (h : Heap) : retOf K 231 k fr h = leaving 0 k h (resL Tryz.prog fr h [.tmp 2]) := ret_of Tryz.func231 rfl rfl
theorem call_232 : CallT 232 Tryz.f232 := fun _ _ => R_call rfl rfl (by decide +kernel) rfl Tryz.func232 rfl
@[go_sem] theorem ret_232 (k : Nat) (fr : Fr) (h : Heap) : retOf K 232 k fr h = leaving 2 k h (resL Tryz.prog fr h [.cell 2 52]) := ret_of Tryz.func232 rfl rfl
theorem call_233 : CallT 233 Tryz.f233 := fun _ _ => R_call rfl rfl (by decide +kernel) rfl Tryz.func233 rfl
@[go_sem] theorem ret_233 (k : Nat) (fr : Fr) (h : Heap) : retOf K 233 k fr h = leaving 0 k h (resL Tryz.prog fr h [.cell 4 52]) := ret_of Tryz.func233 rfl rfl
theorem call_234 : CallT 234 Tryz.f234 := fun _ _ => R_call rfl rfl (by decide +kernel) rfl Tryz.func234 rfl
@[go_sem] theorem ret_234 (k : Nat) (fr : Fr) (h : Heap) : retOf K 234 k fr h = leaving 0 k h (resL Tryz.prog fr h [.tmp 2]) := ret_of Tryz.func234 rfl rfl
theorem call_235 : CallT 235 Tryz.f235 := fun _ _ => R_call rfl rfl (by decide +kernel) rfl Tryz.func235 rfl
@[go_sem] theorem ret_235 (k : Nat) (fr : Fr) (h : Heap) : retOf K 235 k fr h = leaving 0 k h (resL Tryz.prog fr h [.tmp 2]) := ret_of Tryz.func235 rfl rfl
theorem call_236 : CallT 236 Tryz.f236 := fun _ _ => R_call rfl rfl (by decide +kernel) rfl Tryz.func236 rfl
@[go_sem] theorem ret_236 (k : Nat) (fr : Fr) (h : Heap) : retOf K 236 k fr h = leaving 0 k h (resL Tryz.prog fr h [.tmp 4]) := ret_of Tryz.func236 rfl rfl
theorem call_237 : CallT 237 Tryz.f237 := fun _ _ => R_call rfl rfl (by decide +kernel) rfl Tryz.func237 rfl
@[go_sem] theorem ret_237 (k : Nat) (fr : Fr) (h : Heap) : retOf K 237 k fr h = leaving 0 k h (resL Tryz.prog fr h [.tmp 4]) := ret_of Tryz.func237 rfl rfl
theorem call_238 : CallT 238 Tryz.f238 := fun _ _ => R_call rfl rfl (by decide +kernel) rfl Tryz.func238 rfl
@[go_sem] theorem ret_238 (k : Nat) (fr : Fr) (h : Heap) : retOf K 238 k fr h = leaving 0 k h (resL Tryz.prog fr h [.tmp 2]) := ret_of Tryz.func238 rfl rfl
theorem call_239 : CallT 239 Tryz.f239 := fun _ _ => R_call rfl rfl (by decide +kernel) rfl Tryz.func239 rfl
@[go_sem] theorem ret_239 (k : Nat) (fr : Fr) (h : Heap) : retOf K 239 k fr h = leaving 0 k h (resL Tryz.prog fr h [.tmp 2]) := ret_of Tryz.func239 rfl rfl
theorem call_240 : CallT 240 Tryz.f240 := fun _ _ => R_call rfl rfl (by decide +kernel) rfl Tryz.func240 rfl
@[go_sem] theorem ret_240 (k : Nat) (fr : Fr) (h : Heap) : retOf K 240 k fr h = leaving 0 k h (resL Tryz.prog fr h [.cell 4 52]) := ret_of Tryz.func240 rfl rfl
theorem call_241 : CallT 241 Tryz.f241 := fun _ _ => R_call rfl rfl (by decide +kernel) rfl Tryz.func241 rfl
@[go_sem] theorem ret_241 (k : Nat) (fr : Fr) (h : Heap) : retOf K 241 k fr h = leaving 2 k h (resL Tryz.prog fr h [.cell 4 52]) := ret_of Tryz.func241 rfl rfl
theorem call_242 : CallT 242 Tryz.f242 := fun _ _ => R_call rfl rfl (by decide +kernel) rfl Tryz.func242 rfl
@[go_sem] theorem ret_242 (k : Nat) (fr : Fr) (h : Heap) : retOf K 242 k fr h = leaving 0 k h (resL Tryz.prog fr h [.tmp 4, .tmp 5]) := ret_of Tryz.func242 rfl rfl
theorem call_243 : CallT 243 Tryz.f243 := fun _ _ => R_call rfl rfl (by decide +kernel) rfl Tryz.func243 rfl
@[go_sem] theorem ret_243 (k : Nat) (fr : Fr) (h : Heap) : retOf K 243 k fr h = leaving 0 k h (resL Tryz.prog fr h [.tmp 4, .tmp 5, .tmp 6]) := ret_of Tryz.func243 rfl rfl
theorem call_244 : CallT 244 Tryz.f244 := fun _ _ => R_call rfl rfl (by decide +kernel) rfl Tryz.func244 rfl
@[go_sem] theorem ret_244 (k : Nat) (fr : Fr) (h : Heap) : retOf K 244 k fr h = leaving 0 k h (resL Tryz.prog fr h [.tmp 4]) := ret_of Tryz.func244 rfl rfl
theorem call_256 : CallT 256 Tryz.f256 := fun _ _ => R_call rfl rfl (by decide +kernel) rfl Tryz.func256 rfl
@[go_sem] theorem ret_256 (k : Nat) (fr : Fr) (h : Heap) : retOf K 256 k fr h = leaving 0 k h (resL Tryz.prog fr h [.tmp 4]) := ret_of Tryz.func256 rfl rfl
theorem call_258 : CallT 258 Tryz.f258 := fun _ _ => R_call rfl rfl (by decide +kernel) rfl Tryz.func258 rfl
@[go_sem] theorem ret_258 (k : Nat) (fr : Fr) (h : Heap) : retOf K 258 k fr h = leaving 0 k h (resL Tryz.prog fr h [.tmp 2]) := ret_of Tryz.func258 rfl rfl
theorem call_259 : CallT 259 Tryz.f259 := fun _ _ => R_call rfl rfl (by decide +kernel) rfl Tryz.func259 rfl
@[go_sem] theorem ret_259 (k : Nat) (fr : Fr) (h : Heap) : retOf K 259 k fr h = leaving 0 k h (resL Tryz.prog fr h [.tmp 2]) := ret_of Tryz.func259 rfl rfl
theorem call_260 : CallT 260 Tryz.f260 := fun _ _ => R_call rfl rfl (by decide +kernel) rfl Tryz.func260 rfl
@[go_sem] theorem ret_260 (k : Nat) (fr : Fr) (h : Heap) : retOf K 260 k fr h = leaving 0 k h (resL Tryz.prog fr h [.tmp 2]) := ret_of Tryz.func260 rfl rfl
theorem call_262 : CallT 262 Tryz.f262 := fun _ _ => R_call rfl rfl (by decide +kernel) rfl Tryz.func262 rfl
theorem call_268 : CallT 268 Tryz.f268 := fun _ _ => R_call rfl rfl (by decide +kernel) rfl Tryz.func268 rfl
@[go_sem] theorem ret_268 (k : Nat) (fr : Fr) (h : Heap) : retOf K 268 k fr h = leaving 0 k h (resL Tryz.prog fr h [.tmp 2]) := ret_of Tryz.func268 rfl rfl
theorem call_269 : CallT 269 Tryz.f269 := fun _ _ => R_call rfl rfl (by decide +kernel) rfl Tryz.func269 rfl
@[go_sem] theorem ret_269 (k : Nat) (fr : Fr) (h : Heap) : retOf K 269 k fr h = leaving 0 k h (resL Tryz.prog fr h [.tmp 2]) := ret_of Tryz.func269 rfl rfl
theorem call_270 : CallT 270 Tryz.f270 := fun _ _ => R_call rfl rfl (by decide +kernel) rfl Tryz.func270 rfl
@[go_sem] theorem ret_270 (k : Nat) (fr : Fr) (h : Heap) : retOf K 270 k fr h = leaving 0 k h (resL Tryz.prog fr h [.tmp 3]) := ret_of Tryz.func270 rfl rfl
theorem call_273 : CallT 273 Tryz.f273 := fun _ _ => R_call rfl rfl (by decide +kernel) rfl Tryz.func273 rfl
@[go_sem] theorem ret_273 (k : Nat) (fr : Fr) (h : Heap) : retOf K 273 k fr h = leaving 0 k h (resL Tryz.prog fr h [.tmp 2]) := ret_of Tryz.func273 rfl rfl
theorem call_274 : CallT 274 Tryz.f274 := fun _ _ => R_call rfl rfl (by decide +kernel) rfl Tryz.func274 rfl
@[go_sem] theorem ret_274 (k : Nat) (fr : Fr) (h : Heap) : retOf K 274 k fr h = leaving 0 k h (resL Tryz.prog fr h [.tmp 2]) := ret_of Tryz.func274 rfl rfl
theorem call_275 : CallT 275 Tryz.f275 := fun _ _ => R_call rfl rfl (by decide +kernel) rfl Tryz.func275 rfl
@[go_sem] theorem ret_275 (k : Nat) (fr : Fr) (h : Heap) : retOf K 275 k fr h = leaving 0 k h (resL Tryz.prog fr h [.tmp 2]) := ret_of Tryz.func275 rfl rfl
theorem call_277 : CallT 277 Tryz.f277 := fun _ _ => R_call rfl rfl (by decide +kernel) rfl Tryz.func277 rfl
@[go_sem] theorem ret_277 (k : Nat) (fr : Fr) (h : Heap) : retOf K 277 k fr h = leaving 0 k h (resL Tryz.prog fr h [.tmp 2]) := ret_of Tryz.func277 rfl rfl
theorem call_284 : CallT 284 Tryz.f284 := fun _ _ => R_call rfl rfl (by decide +kernel) rfl Tryz.func284 rfl
@[go_sem] theorem ret_284 (k : Nat) (fr : Fr) (h : Heap) : retOf K 284 k fr h = leaving 0 k h (resL Tryz.prog fr h [.tmp 4]) := ret_of Tryz.func284 rfl rfl
theorem call_308 : CallT 308 Tryz.f308 := fun _ _ => R_call rfl rfl (by decide +kernel) rfl Tryz.func308 rfl
@[go_sem] theorem ret_308 (k : Nat) (fr : Fr) (h : Heap) : retOf K 308 k fr h = leaving 0 k h (resL Tryz.prog fr h [.tmp 4]) := ret_of Tryz.func308 rfl rfl
end Go.Ab
namespace Go.Ab
open Go Go.Proofs
attribute [go_sem] R_seq R_cond R_exit R_ret R_end R_blk R_skip onUnw_some outOf_none onCond_true onCond_false get_eq get_ne put_some put_none ev_tmp ev_const ev_func
attribute [go_sem] stepO stepD stepQ stepA isQ quietOp alo fill numA plOf Go.Ab.alloc cellsOf single singles vunit val aLoad part pieces purify purifyL sliceOf callOp callOpD callV callD afterD evs callBy afterPure slotOf getO aUn pick aStr aStore buildV fillBy splice fieldA fieldV addOff aBin isConst aInt eqOp yesO notO leaving resL resV tupOf locs locsL locsH locsB locsF leaveR leave leaveL ofVal ofVals entry placeOf eqV eqCells eqCell unwind onLoop onRound owned frz restr builtinD tk? lenV indexS indexP rowOk minV minI maxV maxI extractV convertV nilCheckV sliceS sliceV sliceR sliceArr List.length_replicate bounds2 high low bound evo rowsOf appendV appendTo firstConst freshOf List.length_map allLen cut touchesQ touches clearAll clears List.any_cons List.contains_nil List.contains_cons lookupV mapSet findA keyEq keyOk mapPut entriesOf lookRes Int.ofNat_eq_natCast Int.cast_ofNat_Int
@[go_sem] theorem appendX_own {el : Option TypeId} {wq : Bool} {h : Heap} {z b l n : Nat} {ys : List (List AV)} : appendX el wq h z b ys (.own l n) = appendTo wq h z b (.own l n) ys := rfl
@[go_sem] theorem appendX_nils {el : Option TypeId} {wq : Bool} {h : Heap} {z b : Nat} {ys : List (List AV)} : appendX el wq h z b ys .nils = appendTo wq h z b .nils ys := rfl
@[go_sem] theorem appendX_lit {el : Option TypeId} {wq : Bool} {h : Heap} {z b : Nat} {rs ys : List (List AV)} : appendX el wq h z b ys (.lit rs) = appendTo wq h z b (.lit rs) ys := rfl
@[go_sem] theorem appendX_rows {el : Option TypeId} {wq : Bool} {h : Heap} {z b : Nat} {rs ys : List (List AV)} : appendX el wq h z b ys (.rows rs) = appendTo wq h z b (.rows rs) ys := rfl
@[go_sem] theorem appendX_town {t : TypeId} {wq : Bool} {h : Heap} {z b l n : Nat} {ys : List (List AV)} : appendX (some t) wq h z b ys (.town t l n) = tyO t (appendTo wq h z b (.own l n) ys) := by simp [appendX]
@[go_sem] theorem tyO_own {t : TypeId} {l n : Nat} {h : Heap} : tyO t (some (.own l n, h)) = some (.town t l n, h) := rfl
@[go_sem] theorem allocT_no {t : TypeId} {r : Option (AV × Heap)} : allocT false t r = r := rfl
@[go_sem] theorem allocT_yes {t : TypeId} {l o : Nat} {h : Heap} : allocT true t (some (.ptr l o, h)) = some (.tptr t l o, h) := rfl
attribute [go_sem] appendS
@[go_sem] theorem under_nil (n : Nat) : under n [] = true := rfl
@[go_sem] theorem under_cons (n l : Nat) (r : List Nat) : (under n (l :: r) = true) = (l < n ∧ under n r = true) := by simp [under]
@[go_sem] theorem outOf_cut {F : Tk → Res} {f k n : Nat} {ks : List It} {fr : Fr} {h : Heap} {l : List Nat} : outOf F f k ks n fr h (some l) = if k ≤ n ∧ (under n (locsF (restr fr l)) = true ∧ under n (locsH (h.take n)) = true) then F (.run f k ks (restr fr l) (h.take n)) else none := by
  simp [outOf]
@[go_sem] theorem onTurn_some {F : Tk → Res} {f k n : Nat} {ks : List It} {fr : Fr} {h : Heap} {c : Code} {live : List Nat × List Nat} : onTurn F f k ks c live n (some (fr, h)) = if k ≤ n ∧ (under n (locsF fr) = true ∧ under n (locsH (h.take n)) = true) then F (.run f k (.code c :: .lp c (some live) n :: ks) fr (h.take n)) else none := by
  simp [onTurn]
attribute [go_sem] Option.getD_some Nat.zero_add Nat.add_zero List.length_nil List.length_cons List.length_append List.nil_append List.append_nil List.cons_append List.getElem?_cons_zero List.getElem?_cons_succ List.getElem?_nil List.getElem?_toArray beq_iff_eq List.take_zero List.take_succ_cons List.take_nil List.drop_zero List.drop_succ_cons List.drop_nil List.set_cons_zero List.set_cons_succ List.length_set List.replicate_zero List.replicate_succ List.any_nil Bool.not_false Bool.not_true Bool.and_true Bool.true_and Bool.and_false Bool.false_and Bool.or_true Bool.or_false Bool.true_or Bool.false_or Bool.and_self Bool.false_eq_true if_true if_false ite_true ite_false cond_true cond_false decide_true decide_false decide_eq_true_eq and_self and_true true_and and_false false_and Option.some.injEq AV.bool.injEq Nat.le_refl
end Go.Ab
