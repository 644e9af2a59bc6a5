/- What is proved: facts by program on types and code, for rewriting. What is proved: nothing new; rules for rewriting are gathered. Conditions: none. -/
import Derived.Test.YtbeggbbiihhodaaGreatDoorMS
import Derived.Test.YtbeggbbiihhodaaGreatDoorMD
set_option linter.unusedSimpArgs false
set_option linter.unusedVariables false
namespace Go.Ab
open Go Go.Proofs
set_option maxRecDepth 100000
@[go_sem] theorem K_P : K.P = Tryz.prog := rfl
@[go_sem] theorem K_bT : K.bT = 221 := rfl
@[go_sem] theorem wrT_22 : wrOf K (some 22) = true := rfl
@[go_sem] theorem wrT_23 : wrOf K (some 23) = true := rfl
@[go_sem] theorem wrT_32 : wrOf K (some 32) = false := rfl
@[go_sem] theorem wrT_43 : wrOf K (some 43) = true := rfl
@[go_sem] theorem wrT_44 : wrOf K (some 44) = false := rfl
@[go_sem] theorem wrT_45 : wrOf K (some 45) = false := rfl
@[go_sem] theorem wrT_64 : wrOf K (some 64) = true := rfl
@[go_sem] theorem wrT_65 : wrOf K (some 65) = true := rfl
@[go_sem] theorem wrT_79 : wrOf K (some 79) = false := rfl
@[go_sem] theorem wrT_86 : wrOf K (some 86) = false := rfl
@[go_sem] theorem wrT_106 : wrOf K (some 106) = false := rfl
@[go_sem] theorem wrT_151 : wrOf K (some 151) = false := rfl
@[go_sem] theorem wrT_152 : wrOf K (some 152) = false := rfl
@[go_sem] theorem wrT_161 : wrOf K (some 161) = false := rfl
@[go_sem] theorem wrT_199 : wrOf K (some 199) = false := rfl
@[go_sem] theorem wrT_201 : wrOf K (some 201) = false := rfl
@[go_sem] theorem wrT_219 : wrOf K (some 219) = false := rfl
@[go_sem] theorem wrT_267 : wrOf K (some 267) = false := rfl
@[go_sem] theorem nlT_22 : K.nlT 22 = false := rfl
@[go_sem] theorem nlT_23 : K.nlT 23 = true := rfl
@[go_sem] theorem nlT_32 : K.nlT 32 = false := rfl
@[go_sem] theorem nlT_43 : K.nlT 43 = true := rfl
@[go_sem] theorem nlT_44 : K.nlT 44 = true := rfl
@[go_sem] theorem nlT_45 : K.nlT 45 = true := rfl
@[go_sem] theorem nlT_60 : K.nlT 60 = false := rfl
@[go_sem] theorem nlT_64 : K.nlT 64 = true := rfl
@[go_sem] theorem nlT_65 : K.nlT 65 = true := rfl
@[go_sem] theorem nlT_79 : K.nlT 79 = false := rfl
@[go_sem] theorem nlT_82 : K.nlT 82 = false := rfl
@[go_sem] theorem nlT_86 : K.nlT 86 = false := rfl
@[go_sem] theorem nlT_106 : K.nlT 106 = false := rfl
@[go_sem] theorem nlT_132 : K.nlT 132 = false := rfl
@[go_sem] theorem nlT_151 : K.nlT 151 = false := rfl
@[go_sem] theorem nlT_152 : K.nlT 152 = false := rfl
@[go_sem] theorem nlT_161 : K.nlT 161 = false := rfl
@[go_sem] theorem nlT_199 : K.nlT 199 = false := rfl
@[go_sem] theorem nlT_201 : K.nlT 201 = false := rfl
@[go_sem] theorem nlT_219 : K.nlT 219 = false := rfl
@[go_sem] theorem nlT_261 : K.nlT 261 = false := rfl
@[go_sem] theorem nlT_267 : K.nlT 267 = false := rfl
abbrev CallT (n : Nat) (f : Func) : Prop := ∀ (args : List AV) (h : Heap), R K (.call n args h) = R K (.run n h.length [.code (f.body.getD .skip)] (entry 0 args) h)
theorem ret_of {f m k : Nat} {fr : Fr} {h : Heap} {fn : Func} {rs : List ResultVar} (h1 : Tryz.prog.funcs[f]? = some fn) (h2 : fn.results.toList = rs) (h3 : K.ret f = m) : retOf K f k fr h = leaving m k h (resL Tryz.prog fr h rs) := by
  unfold retOf
  rw [K_P, h1, ← h2, ← h3]
@[go_sem] theorem ar_106 : ar Tryz.prog 106 = none := rfl
@[go_sem] theorem ar_132 : ar Tryz.prog 132 = none := rfl
@[go_sem] theorem ar_151 : ar Tryz.prog 151 = none := rfl
@[go_sem] theorem ar_152 : ar Tryz.prog 152 = none := rfl
@[go_sem] theorem ar_161 : ar Tryz.prog 161 = none := rfl
@[go_sem] theorem ar_199 : ar Tryz.prog 199 = none := rfl
@[go_sem] theorem ar_201 : ar Tryz.prog 201 = none := rfl
@[go_sem] theorem ar_219 : ar Tryz.prog 219 = none := rfl
@[go_sem] theorem ar_22 : ar Tryz.prog 22 = none := rfl
@[go_sem] theorem ar_23 : ar Tryz.prog 23 = none := rfl
@[go_sem] theorem ar_261 : ar Tryz.prog 261 = none := rfl
@[go_sem] theorem ar_267 : ar Tryz.prog 267 = none := rfl
@[go_sem] theorem ar_32 : ar Tryz.prog 32 = none := rfl
@[go_sem] theorem ar_384 : ar Tryz.prog 384 = some (6, 3, 1) := rfl
@[go_sem] theorem ar_43 : ar Tryz.prog 43 = none := rfl
@[go_sem] theorem ar_44 : ar Tryz.prog 44 = none := rfl
@[go_sem] theorem ar_45 : ar Tryz.prog 45 = none := rfl
@[go_sem] theorem ar_58 : ar Tryz.prog 58 = none := rfl
@[go_sem] theorem ar_60 : ar Tryz.prog 60 = none := rfl
@[go_sem] theorem ar_64 : ar Tryz.prog 64 = none := rfl
@[go_sem] theorem ar_65 : ar Tryz.prog 65 = none := rfl
@[go_sem] theorem ar_74 : ar Tryz.prog 74 = none := rfl
@[go_sem] theorem ar_79 : ar Tryz.prog 79 = none := rfl
@[go_sem] theorem ar_82 : ar Tryz.prog 82 = none := rfl
@[go_sem] theorem ar_83 : ar Tryz.prog 83 = none := rfl
@[go_sem] theorem ar_86 : ar Tryz.prog 86 = none := rfl
@[go_sem] theorem ar_9 : ar Tryz.prog 9 = none := rfl
@[go_sem] theorem ck_150 : ck Tryz.prog 150 = .ptr := by kernel_rfl
@[go_sem] theorem ck_165 : ck Tryz.prog 165 = .ptr := by kernel_rfl
@[go_sem] theorem ck_214 : ck Tryz.prog 214 = .no := by kernel_rfl
@[go_sem] theorem ck_224 : ck Tryz.prog 224 = .iface := by kernel_rfl
@[go_sem] theorem ck_23 : ck Tryz.prog 23 = .no := by kernel_rfl
@[go_sem] theorem ck_257 : ck Tryz.prog 257 = .ptr := by kernel_rfl
@[go_sem] theorem ck_299 : ck Tryz.prog 299 = .no := by kernel_rfl
@[go_sem] theorem ck_3 : ck Tryz.prog 3 = .no := by kernel_rfl
@[go_sem] theorem ck_30 : ck Tryz.prog 30 = .no := by kernel_rfl
@[go_sem] theorem ck_32 : ck Tryz.prog 32 = .no := by kernel_rfl
@[go_sem] theorem ck_331 : ck Tryz.prog 331 = .no := by kernel_rfl
@[go_sem] theorem ck_4 : ck Tryz.prog 4 = .bool := by kernel_rfl
@[go_sem] theorem ck_43 : ck Tryz.prog 43 = .no := by kernel_rfl
@[go_sem] theorem ck_44 : ck Tryz.prog 44 = .no := by kernel_rfl
@[go_sem] theorem ck_45 : ck Tryz.prog 45 = .no := by kernel_rfl
@[go_sem] theorem ck_5 : ck Tryz.prog 5 = .no := by kernel_rfl
@[go_sem] theorem ck_54 : ck Tryz.prog 54 = .flat [.int, .int, .str] := by kernel_rfl
@[go_sem] theorem ck_9 : ck Tryz.prog 9 = .no := by kernel_rfl
@[go_sem] theorem cv_21_9 : cvOf Tryz.prog 21 9 = .str := rfl
@[go_sem] theorem cv_214_3 : cvOf Tryz.prog 214 3 = .int .i64 := rfl
@[go_sem] theorem cv_219_9 : cvOf Tryz.prog 219 9 = .ofBytes := rfl
@[go_sem] theorem cv_299_5 : cvOf Tryz.prog 299 5 = .int .u8 := rfl
@[go_sem] theorem cv_3_21 : cvOf Tryz.prog 3 21 = .int .i32 := rfl
@[go_sem] theorem cv_3_214 : cvOf Tryz.prog 3 214 = .int .u64 := rfl
@[go_sem] theorem cv_3_299 : cvOf Tryz.prog 3 299 = .int .u64 := rfl
@[go_sem] theorem cv_3_394 : cvOf Tryz.prog 3 394 = .int .u64 := rfl
@[go_sem] theorem cv_3_5 : cvOf Tryz.prog 3 5 = .int .u8 := rfl
@[go_sem] theorem cv_5_3 : cvOf Tryz.prog 5 3 = .int .i64 := rfl
@[go_sem] theorem cv_9_219 : cvOf Tryz.prog 9 219 = .bytes := rfl
@[go_sem] theorem el_219 : elT Tryz.prog 219 = some (5) := rfl
@[go_sem] theorem es_106 : es Tryz.prog 106 = some (1, 24) := rfl
@[go_sem] theorem es_132 : es Tryz.prog 132 = some (1, 8) := rfl
@[go_sem] theorem es_151 : es Tryz.prog 151 = some (9, 128) := rfl
@[go_sem] theorem es_152 : es Tryz.prog 152 = some (7, 80) := rfl
@[go_sem] theorem es_161 : es Tryz.prog 161 = some (13, 192) := rfl
@[go_sem] theorem es_199 : es Tryz.prog 199 = some (5, 64) := rfl
@[go_sem] theorem es_201 : es Tryz.prog 201 = some (10, 144) := rfl
@[go_sem] theorem es_219 : es Tryz.prog 219 = some (1, 1) := rfl
@[go_sem] theorem es_22 : es Tryz.prog 22 = some (1, 8) := rfl
@[go_sem] theorem es_23 : es Tryz.prog 23 = some (5, 112) := rfl
@[go_sem] theorem es_237 : es Tryz.prog 237 = some (10, 192) := rfl
@[go_sem] theorem es_238 : es Tryz.prog 238 = some (15, 200) := rfl
@[go_sem] theorem es_261 : es Tryz.prog 261 = some (1, 24) := rfl
@[go_sem] theorem es_267 : es Tryz.prog 267 = some (3, 40) := rfl
@[go_sem] theorem es_3 : es Tryz.prog 3 = none := rfl
@[go_sem] theorem es_302 : es Tryz.prog 302 = none := rfl
@[go_sem] theorem es_32 : es Tryz.prog 32 = some (1, 16) := rfl
@[go_sem] theorem es_384 : es Tryz.prog 384 = none := rfl
@[go_sem] theorem es_43 : es Tryz.prog 43 = some (6, 64) := rfl
@[go_sem] theorem es_44 : es Tryz.prog 44 = some (3, 56) := rfl
@[go_sem] theorem es_45 : es Tryz.prog 45 = some (3, 48) := rfl
@[go_sem] theorem es_58 : es Tryz.prog 58 = some (1, 24) := rfl
@[go_sem] theorem es_60 : es Tryz.prog 60 = some (1, 1) := rfl
@[go_sem] theorem es_64 : es Tryz.prog 64 = some (2, 40) := rfl
@[go_sem] theorem es_65 : es Tryz.prog 65 = some (10, 136) := rfl
@[go_sem] theorem es_74 : es Tryz.prog 74 = some (2, 40) := rfl
@[go_sem] theorem es_79 : es Tryz.prog 79 = some (3, 32) := rfl
@[go_sem] theorem es_82 : es Tryz.prog 82 = some (9, 120) := rfl
@[go_sem] theorem es_83 : es Tryz.prog 83 = some (5, 56) := rfl
@[go_sem] theorem es_86 : es Tryz.prog 86 = some (1, 24) := rfl
@[go_sem] theorem es_9 : es Tryz.prog 9 = none := rfl
@[go_sem] theorem ez_219 : elemZero Tryz.prog 219 = some (.int .u8 0) := rfl
@[go_sem] theorem ez_58 : elemZero Tryz.prog 58 = some (.nils) := rfl
@[go_sem] theorem ez_60 : elemZero Tryz.prog 60 = some (.bool false) := rfl
@[go_sem] theorem ez_74 : elemZero Tryz.prog 74 = some (.agg [.str [], .nils]) := rfl
@[go_sem] theorem fo_109_0 : fo Tryz.prog 109 0 = some (0, 9) := rfl
@[go_sem] theorem fo_109_1 : fo Tryz.prog 109 1 = some (1, 32) := rfl
@[go_sem] theorem fo_109_2 : fo Tryz.prog 109 2 = some (2, 4) := rfl
@[go_sem] theorem fo_121_0 : fo Tryz.prog 121 0 = some (0, 4) := rfl
@[go_sem] theorem fo_154_0 : fo Tryz.prog 154 0 = some (0, 9) := rfl
@[go_sem] theorem fo_154_1 : fo Tryz.prog 154 1 = some (1, 9) := rfl
@[go_sem] theorem fo_154_2 : fo Tryz.prog 154 2 = some (2, 4) := rfl
@[go_sem] theorem fo_154_3 : fo Tryz.prog 154 3 = some (3, 4) := rfl
@[go_sem] theorem fo_154_4 : fo Tryz.prog 154 4 = some (4, 4) := rfl
@[go_sem] theorem fo_154_5 : fo Tryz.prog 154 5 = some (5, 4) := rfl
@[go_sem] theorem fo_154_6 : fo Tryz.prog 154 6 = some (6, 151) := rfl
@[go_sem] theorem fo_154_7 : fo Tryz.prog 154 7 = some (7, 152) := rfl
@[go_sem] theorem fo_154_8 : fo Tryz.prog 154 8 = some (8, 106) := rfl
@[go_sem] theorem fo_154_9 : fo Tryz.prog 154 9 = some (9, 106) := rfl
@[go_sem] theorem fo_158_0 : fo Tryz.prog 158 0 = some (0, 9) := rfl
@[go_sem] theorem fo_158_1 : fo Tryz.prog 158 1 = some (1, 151) := rfl
@[go_sem] theorem fo_163_0 : fo Tryz.prog 163 0 = some (0, 9) := rfl
@[go_sem] theorem fo_163_1 : fo Tryz.prog 163 1 = some (1, 3) := rfl
@[go_sem] theorem fo_163_2 : fo Tryz.prog 163 2 = some (2, 9) := rfl
@[go_sem] theorem fo_163_3 : fo Tryz.prog 163 3 = some (3, 4) := rfl
@[go_sem] theorem fo_163_4 : fo Tryz.prog 163 4 = some (4, 54) := rfl
@[go_sem] theorem fo_163_5 : fo Tryz.prog 163 5 = some (7, 32) := rfl
@[go_sem] theorem fo_163_6 : fo Tryz.prog 163 6 = some (8, 161) := rfl
@[go_sem] theorem fo_167_0 : fo Tryz.prog 167 0 = some (0, 9) := rfl
@[go_sem] theorem fo_167_1 : fo Tryz.prog 167 1 = some (1, 3) := rfl
@[go_sem] theorem fo_167_2 : fo Tryz.prog 167 2 = some (2, 9) := rfl
@[go_sem] theorem fo_167_3 : fo Tryz.prog 167 3 = some (3, 9) := rfl
@[go_sem] theorem fo_167_4 : fo Tryz.prog 167 4 = some (4, 4) := rfl
@[go_sem] theorem fo_167_5 : fo Tryz.prog 167 5 = some (5, 3) := rfl
@[go_sem] theorem fo_167_6 : fo Tryz.prog 167 6 = some (6, 4) := rfl
@[go_sem] theorem fo_176_0 : fo Tryz.prog 176 0 = some (0, 67) := rfl
@[go_sem] theorem fo_198_0 : fo Tryz.prog 198 0 = some (0, 67) := rfl
@[go_sem] theorem fo_198_1 : fo Tryz.prog 198 1 = some (2, 85) := rfl
@[go_sem] theorem fo_198_2 : fo Tryz.prog 198 2 = some (4, 194) := rfl
@[go_sem] theorem fo_198_3 : fo Tryz.prog 198 3 = some (5, 195) := rfl
@[go_sem] theorem fo_198_4 : fo Tryz.prog 198 4 = some (6, 196) := rfl
@[go_sem] theorem fo_204_0 : fo Tryz.prog 204 0 = some (0, 9) := rfl
@[go_sem] theorem fo_204_1 : fo Tryz.prog 204 1 = some (1, 163) := rfl
@[go_sem] theorem fo_208_0 : fo Tryz.prog 208 0 = some (0, 9) := rfl
@[go_sem] theorem fo_208_1 : fo Tryz.prog 208 1 = some (1, 9) := rfl
@[go_sem] theorem fo_208_2 : fo Tryz.prog 208 2 = some (2, 3) := rfl
@[go_sem] theorem fo_208_3 : fo Tryz.prog 208 3 = some (3, 3) := rfl
@[go_sem] theorem fo_208_4 : fo Tryz.prog 208 4 = some (4, 3) := rfl
@[go_sem] theorem fo_221_1 : fo Tryz.prog 221 1 = some (1, 219) := rfl
@[go_sem] theorem fo_240_0 : fo Tryz.prog 240 0 = some (0, 3) := rfl
@[go_sem] theorem fo_240_1 : fo Tryz.prog 240 1 = some (1, 3) := rfl
@[go_sem] theorem fo_240_10 : fo Tryz.prog 240 10 = some (12, 238) := rfl
@[go_sem] theorem fo_240_2 : fo Tryz.prog 240 2 = some (2, 3) := rfl
@[go_sem] theorem fo_240_3 : fo Tryz.prog 240 3 = some (3, 54) := rfl
@[go_sem] theorem fo_240_4 : fo Tryz.prog 240 4 = some (6, 9) := rfl
@[go_sem] theorem fo_240_5 : fo Tryz.prog 240 5 = some (7, 9) := rfl
@[go_sem] theorem fo_240_6 : fo Tryz.prog 240 6 = some (8, 4) := rfl
@[go_sem] theorem fo_240_7 : fo Tryz.prog 240 7 = some (9, 161) := rfl
@[go_sem] theorem fo_240_8 : fo Tryz.prog 240 8 = some (10, 237) := rfl
@[go_sem] theorem fo_240_9 : fo Tryz.prog 240 9 = some (11, 161) := rfl
@[go_sem] theorem fo_25_0 : fo Tryz.prog 25 0 = some (0, 23) := rfl
@[go_sem] theorem fo_286_0 : fo Tryz.prog 286 0 = some (0, 9) := rfl
@[go_sem] theorem fo_286_1 : fo Tryz.prog 286 1 = some (1, 9) := rfl
@[go_sem] theorem fo_286_2 : fo Tryz.prog 286 2 = some (2, 3) := rfl
@[go_sem] theorem fo_286_3 : fo Tryz.prog 286 3 = some (3, 9) := rfl
@[go_sem] theorem fo_286_4 : fo Tryz.prog 286 4 = some (4, 4) := rfl
@[go_sem] theorem fo_29_0 : fo Tryz.prog 29 0 = some (0, 22) := rfl
@[go_sem] theorem fo_29_1 : fo Tryz.prog 29 1 = some (1, 3) := rfl
@[go_sem] theorem fo_325_0 : fo Tryz.prog 325 0 = some (0, 267) := rfl
@[go_sem] theorem fo_325_1 : fo Tryz.prog 325 1 = some (1, 22) := rfl
@[go_sem] theorem fo_328_0 : fo Tryz.prog 328 0 = some (0, 9) := rfl
@[go_sem] theorem fo_328_1 : fo Tryz.prog 328 1 = some (1, 9) := rfl
@[go_sem] theorem fo_328_2 : fo Tryz.prog 328 2 = some (2, 3) := rfl
@[go_sem] theorem fo_374_0 : fo Tryz.prog 374 0 = some (0, 9) := rfl
@[go_sem] theorem fo_374_1 : fo Tryz.prog 374 1 = some (1, 4) := rfl
@[go_sem] theorem fo_374_2 : fo Tryz.prog 374 2 = some (2, 4) := rfl
@[go_sem] theorem fo_47_0 : fo Tryz.prog 47 0 = some (0, 9) := rfl
@[go_sem] theorem fo_47_1 : fo Tryz.prog 47 1 = some (1, 43) := rfl
@[go_sem] theorem fo_47_2 : fo Tryz.prog 47 2 = some (2, 32) := rfl
@[go_sem] theorem fo_47_3 : fo Tryz.prog 47 3 = some (3, 44) := rfl
@[go_sem] theorem fo_47_4 : fo Tryz.prog 47 4 = some (4, 45) := rfl
@[go_sem] theorem fo_51_0 : fo Tryz.prog 51 0 = some (0, 9) := rfl
@[go_sem] theorem fo_51_1 : fo Tryz.prog 51 1 = some (1, 32) := rfl
@[go_sem] theorem fo_51_2 : fo Tryz.prog 51 2 = some (2, 9) := rfl
@[go_sem] theorem fo_54_0 : fo Tryz.prog 54 0 = some (0, 3) := rfl
@[go_sem] theorem fo_54_1 : fo Tryz.prog 54 1 = some (1, 3) := rfl
@[go_sem] theorem fo_54_2 : fo Tryz.prog 54 2 = some (2, 9) := rfl
@[go_sem] theorem fo_56_0 : fo Tryz.prog 56 0 = some (0, 9) := rfl
@[go_sem] theorem fo_56_1 : fo Tryz.prog 56 1 = some (1, 3) := rfl
@[go_sem] theorem fo_56_2 : fo Tryz.prog 56 2 = some (2, 4) := rfl
@[go_sem] theorem fo_56_3 : fo Tryz.prog 56 3 = some (3, 54) := rfl
@[go_sem] theorem fo_67_0 : fo Tryz.prog 67 0 = some (0, 64) := rfl
@[go_sem] theorem fo_67_1 : fo Tryz.prog 67 1 = some (1, 65) := rfl
@[go_sem] theorem fo_76_0 : fo Tryz.prog 76 0 = some (0, 74) := rfl
@[go_sem] theorem fo_81_0 : fo Tryz.prog 81 0 = some (0, 9) := rfl
@[go_sem] theorem fo_81_1 : fo Tryz.prog 81 1 = some (1, 3) := rfl
@[go_sem] theorem fo_81_2 : fo Tryz.prog 81 2 = some (2, 3) := rfl
@[go_sem] theorem fo_81_3 : fo Tryz.prog 81 3 = some (3, 3) := rfl
@[go_sem] theorem fo_81_4 : fo Tryz.prog 81 4 = some (4, 54) := rfl
@[go_sem] theorem fo_81_5 : fo Tryz.prog 81 5 = some (7, 79) := rfl
@[go_sem] theorem fo_81_6 : fo Tryz.prog 81 6 = some (8, 22) := rfl
@[go_sem] theorem fo_85_0 : fo Tryz.prog 85 0 = some (0, 82) := rfl
@[go_sem] theorem fo_85_1 : fo Tryz.prog 85 1 = some (1, 83) := rfl
@[go_sem] theorem fo_88_0 : fo Tryz.prog 88 0 = some (0, 9) := rfl
@[go_sem] theorem fo_88_1 : fo Tryz.prog 88 1 = some (1, 86) := rfl
@[go_sem] theorem if_9 (x : AV) : ifaceV Tryz.prog 9 x = some (.iface 9 x) := rfl
@[go_sem] theorem isl_150 : isSl Tryz.prog 150 = false := rfl
@[go_sem] theorem isl_165 : isSl Tryz.prog 165 = false := rfl
@[go_sem] theorem isl_214 : isSl Tryz.prog 214 = false := rfl
@[go_sem] theorem isl_224 : isSl Tryz.prog 224 = false := rfl
@[go_sem] theorem isl_23 : isSl Tryz.prog 23 = true := rfl
@[go_sem] theorem isl_257 : isSl Tryz.prog 257 = false := rfl
@[go_sem] theorem isl_299 : isSl Tryz.prog 299 = false := rfl
@[go_sem] theorem isl_3 : isSl Tryz.prog 3 = false := rfl
@[go_sem] theorem isl_30 : isSl Tryz.prog 30 = false := rfl
@[go_sem] theorem isl_32 : isSl Tryz.prog 32 = true := rfl
@[go_sem] theorem isl_331 : isSl Tryz.prog 331 = false := rfl
@[go_sem] theorem isl_4 : isSl Tryz.prog 4 = false := rfl
@[go_sem] theorem isl_43 : isSl Tryz.prog 43 = true := rfl
@[go_sem] theorem isl_44 : isSl Tryz.prog 44 = true := rfl
@[go_sem] theorem isl_45 : isSl Tryz.prog 45 = true := rfl
@[go_sem] theorem isl_5 : isSl Tryz.prog 5 = false := rfl
@[go_sem] theorem isl_54 : isSl Tryz.prog 54 = false := rfl
@[go_sem] theorem isl_9 : isSl Tryz.prog 9 = false := rfl
@[go_sem] theorem kk_194 : kkOf Tryz.prog 194 = some (.str, 199) := rfl
@[go_sem] theorem kk_195 : kkOf Tryz.prog 195 = some (.str, 32) := rfl
@[go_sem] theorem kk_196 : kkOf Tryz.prog 196 = some (.arr 3, 9) := rfl
@[go_sem] theorem kk_289 : kkOf Tryz.prog 289 = some (.str, 54) := rfl
@[go_sem] theorem kk_404 : kkOf Tryz.prog 404 = some (.str, 4) := rfl
@[go_sem] theorem plc_109 : plc Tryz.prog 109 = some (.fields [(0, 1), (1, 1), (2, 1)]) := rfl
@[go_sem] theorem plc_121 : plc Tryz.prog 121 = some (.fields [(0, 1)]) := rfl
@[go_sem] theorem plc_154 : plc Tryz.prog 154 = some (.fields [(0, 1), (1, 1), (2, 1), (3, 1), (4, 1), (5, 1), (6, 1), (7, 1), (8, 1), (9, 1)]) := rfl
@[go_sem] theorem plc_158 : plc Tryz.prog 158 = some (.fields [(0, 1), (1, 1)]) := rfl
@[go_sem] theorem plc_163 : plc Tryz.prog 163 = some (.fields [(0, 1), (1, 1), (2, 1), (3, 1), (4, 3), (7, 1), (8, 1)]) := rfl
@[go_sem] theorem plc_167 : plc Tryz.prog 167 = some (.fields [(0, 1), (1, 1), (2, 1), (3, 1), (4, 1), (5, 1), (6, 1)]) := rfl
@[go_sem] theorem plc_176 : plc Tryz.prog 176 = some (.fields [(0, 2)]) := rfl
@[go_sem] theorem plc_198 : plc Tryz.prog 198 = some (.fields [(0, 2), (2, 2), (4, 1), (5, 1), (6, 1)]) := rfl
@[go_sem] theorem plc_204 : plc Tryz.prog 204 = some (.fields [(0, 1), (1, 9)]) := rfl
@[go_sem] theorem plc_240 : plc Tryz.prog 240 = some (.fields [(0, 1), (1, 1), (2, 1), (3, 3), (6, 1), (7, 1), (8, 1), (9, 1), (10, 1), (11, 1), (12, 1)]) := rfl
@[go_sem] theorem plc_25 : plc Tryz.prog 25 = some (.fields [(0, 1)]) := rfl
@[go_sem] theorem plc_286 : plc Tryz.prog 286 = some (.fields [(0, 1), (1, 1), (2, 1), (3, 1), (4, 1)]) := rfl
@[go_sem] theorem plc_29 : plc Tryz.prog 29 = some (.fields [(0, 1), (1, 1)]) := rfl
@[go_sem] theorem plc_325 : plc Tryz.prog 325 = some (.fields [(0, 1), (1, 1)]) := rfl
@[go_sem] theorem plc_328 : plc Tryz.prog 328 = some (.fields [(0, 1), (1, 1), (2, 1)]) := rfl
@[go_sem] theorem plc_356 : plc Tryz.prog 356 = some (.elems 1) := rfl
@[go_sem] theorem plc_374 : plc Tryz.prog 374 = some (.fields [(0, 1), (1, 1), (2, 1)]) := rfl
@[go_sem] theorem plc_384 : plc Tryz.prog 384 = some (.elems 1) := rfl
@[go_sem] theorem plc_47 : plc Tryz.prog 47 = some (.fields [(0, 1), (1, 1), (2, 1), (3, 1), (4, 1)]) := rfl
@[go_sem] theorem plc_51 : plc Tryz.prog 51 = some (.fields [(0, 1), (1, 1), (2, 1)]) := rfl
@[go_sem] theorem plc_54 : plc Tryz.prog 54 = some (.fields [(0, 1), (1, 1), (2, 1)]) := rfl
@[go_sem] theorem plc_56 : plc Tryz.prog 56 = some (.fields [(0, 1), (1, 1), (2, 1), (3, 3)]) := rfl
@[go_sem] theorem plc_67 : plc Tryz.prog 67 = some (.fields [(0, 1), (1, 1)]) := rfl
@[go_sem] theorem plc_76 : plc Tryz.prog 76 = some (.fields [(0, 1)]) := rfl
@[go_sem] theorem plc_81 : plc Tryz.prog 81 = some (.fields [(0, 1), (1, 1), (2, 1), (3, 1), (4, 3), (7, 1), (8, 1)]) := rfl
@[go_sem] theorem plc_85 : plc Tryz.prog 85 = some (.fields [(0, 1), (1, 1)]) := rfl
@[go_sem] theorem sh_106 : sh Tryz.prog 106 = some .one := rfl
@[go_sem] theorem sh_109 : sh Tryz.prog 109 = some (.agg 3) := rfl
@[go_sem] theorem sh_129 : sh Tryz.prog 129 = some .one := rfl
@[go_sem] theorem sh_136 : sh Tryz.prog 136 = some .one := rfl
@[go_sem] theorem sh_150 : sh Tryz.prog 150 = some .one := rfl
@[go_sem] theorem sh_151 : sh Tryz.prog 151 = some .one := rfl
@[go_sem] theorem sh_152 : sh Tryz.prog 152 = some .one := rfl
@[go_sem] theorem sh_154 : sh Tryz.prog 154 = some (.agg 10) := rfl
@[go_sem] theorem sh_158 : sh Tryz.prog 158 = some (.agg 2) := rfl
@[go_sem] theorem sh_161 : sh Tryz.prog 161 = some .one := rfl
@[go_sem] theorem sh_163 : sh Tryz.prog 163 = some (.agg 9) := rfl
@[go_sem] theorem sh_167 : sh Tryz.prog 167 = some (.agg 7) := rfl
@[go_sem] theorem sh_176 : sh Tryz.prog 176 = some (.agg 2) := rfl
@[go_sem] theorem sh_194 : sh Tryz.prog 194 = some .one := rfl
@[go_sem] theorem sh_195 : sh Tryz.prog 195 = some .one := rfl
@[go_sem] theorem sh_196 : sh Tryz.prog 196 = some .one := rfl
@[go_sem] theorem sh_199 : sh Tryz.prog 199 = some .one := rfl
@[go_sem] theorem sh_204 : sh Tryz.prog 204 = some (.agg 10) := rfl
@[go_sem] theorem sh_208 : sh Tryz.prog 208 = some (.agg 5) := rfl
@[go_sem] theorem sh_213 : sh Tryz.prog 213 = some .one := rfl
@[go_sem] theorem sh_219 : sh Tryz.prog 219 = some .one := rfl
@[go_sem] theorem sh_22 : sh Tryz.prog 22 = some .one := rfl
@[go_sem] theorem sh_23 : sh Tryz.prog 23 = some .one := rfl
@[go_sem] theorem sh_237 : sh Tryz.prog 237 = some .one := rfl
@[go_sem] theorem sh_238 : sh Tryz.prog 238 = some .one := rfl
@[go_sem] theorem sh_240 : sh Tryz.prog 240 = some (.agg 13) := rfl
@[go_sem] theorem sh_25 : sh Tryz.prog 25 = some (.agg 1) := rfl
@[go_sem] theorem sh_267 : sh Tryz.prog 267 = some .one := rfl
@[go_sem] theorem sh_286 : sh Tryz.prog 286 = some (.agg 5) := rfl
@[go_sem] theorem sh_3 : sh Tryz.prog 3 = some .one := rfl
@[go_sem] theorem sh_32 : sh Tryz.prog 32 = some .one := rfl
@[go_sem] theorem sh_325 : sh Tryz.prog 325 = some (.agg 2) := rfl
@[go_sem] theorem sh_328 : sh Tryz.prog 328 = some (.agg 3) := rfl
@[go_sem] theorem sh_384 : sh Tryz.prog 384 = some (.agg 6) := rfl
@[go_sem] theorem sh_4 : sh Tryz.prog 4 = some .one := rfl
@[go_sem] theorem sh_404 : sh Tryz.prog 404 = some .one := rfl
@[go_sem] theorem sh_43 : sh Tryz.prog 43 = some .one := rfl
@[go_sem] theorem sh_44 : sh Tryz.prog 44 = some .one := rfl
@[go_sem] theorem sh_45 : sh Tryz.prog 45 = some .one := rfl
@[go_sem] theorem sh_47 : sh Tryz.prog 47 = some (.agg 5) := rfl
@[go_sem] theorem sh_5 : sh Tryz.prog 5 = some .one := rfl
@[go_sem] theorem sh_51 : sh Tryz.prog 51 = some (.agg 3) := rfl
@[go_sem] theorem sh_54 : sh Tryz.prog 54 = some (.agg 3) := rfl
@[go_sem] theorem sh_56 : sh Tryz.prog 56 = some (.agg 6) := rfl
@[go_sem] theorem sh_58 : sh Tryz.prog 58 = some .one := rfl
@[go_sem] theorem sh_60 : sh Tryz.prog 60 = some .one := rfl
@[go_sem] theorem sh_61 : sh Tryz.prog 61 = some .one := rfl
@[go_sem] theorem sh_64 : sh Tryz.prog 64 = some .one := rfl
@[go_sem] theorem sh_65 : sh Tryz.prog 65 = some .one := rfl
@[go_sem] theorem sh_67 : sh Tryz.prog 67 = some (.agg 2) := rfl
@[go_sem] theorem sh_74 : sh Tryz.prog 74 = some .one := rfl
@[go_sem] theorem sh_76 : sh Tryz.prog 76 = some (.agg 1) := rfl
@[go_sem] theorem sh_79 : sh Tryz.prog 79 = some .one := rfl
@[go_sem] theorem sh_81 : sh Tryz.prog 81 = some (.agg 9) := rfl
@[go_sem] theorem sh_82 : sh Tryz.prog 82 = some .one := rfl
@[go_sem] theorem sh_83 : sh Tryz.prog 83 = some .one := rfl
@[go_sem] theorem sh_85 : sh Tryz.prog 85 = some (.agg 2) := rfl
@[go_sem] theorem sh_86 : sh Tryz.prog 86 = some .one := rfl
@[go_sem] theorem sh_88 : sh Tryz.prog 88 = some (.agg 2) := rfl
@[go_sem] theorem sh_9 : sh Tryz.prog 9 = some .one := rfl
@[go_sem] theorem sh_93 : sh Tryz.prog 93 = some .one := rfl
@[go_sem] theorem sh_99 : sh Tryz.prog 99 = some .one := rfl
@[go_sem] theorem sz_106 : szOf Tryz.prog 106 = some (1) := rfl
@[go_sem] theorem sz_109 : szOf Tryz.prog 109 = some (3) := rfl
@[go_sem] theorem sz_150 : szOf Tryz.prog 150 = some (1) := rfl
@[go_sem] theorem sz_151 : szOf Tryz.prog 151 = some (1) := rfl
@[go_sem] theorem sz_152 : szOf Tryz.prog 152 = some (1) := rfl
@[go_sem] theorem sz_154 : szOf Tryz.prog 154 = some (10) := rfl
@[go_sem] theorem sz_158 : szOf Tryz.prog 158 = some (2) := rfl
@[go_sem] theorem sz_161 : szOf Tryz.prog 161 = some (1) := rfl
@[go_sem] theorem sz_163 : szOf Tryz.prog 163 = some (9) := rfl
@[go_sem] theorem sz_167 : szOf Tryz.prog 167 = some (7) := rfl
@[go_sem] theorem sz_176 : szOf Tryz.prog 176 = some (2) := rfl
@[go_sem] theorem sz_199 : szOf Tryz.prog 199 = some (1) := rfl
@[go_sem] theorem sz_204 : szOf Tryz.prog 204 = some (10) := rfl
@[go_sem] theorem sz_208 : szOf Tryz.prog 208 = some (5) := rfl
@[go_sem] theorem sz_213 : szOf Tryz.prog 213 = some (1) := rfl
@[go_sem] theorem sz_219 : szOf Tryz.prog 219 = some (1) := rfl
@[go_sem] theorem sz_23 : szOf Tryz.prog 23 = some (1) := rfl
@[go_sem] theorem sz_240 : szOf Tryz.prog 240 = some (13) := rfl
@[go_sem] theorem sz_25 : szOf Tryz.prog 25 = some (1) := rfl
@[go_sem] theorem sz_286 : szOf Tryz.prog 286 = some (5) := rfl
@[go_sem] theorem sz_3 : szOf Tryz.prog 3 = some (1) := rfl
@[go_sem] theorem sz_32 : szOf Tryz.prog 32 = some (1) := rfl
@[go_sem] theorem sz_328 : szOf Tryz.prog 328 = some (3) := rfl
@[go_sem] theorem sz_384 : szOf Tryz.prog 384 = some (6) := rfl
@[go_sem] theorem sz_394 : szOf Tryz.prog 394 = some (1) := rfl
@[go_sem] theorem sz_4 : szOf Tryz.prog 4 = some (1) := rfl
@[go_sem] theorem sz_404 : szOf Tryz.prog 404 = some (1) := rfl
@[go_sem] theorem sz_43 : szOf Tryz.prog 43 = some (1) := rfl
@[go_sem] theorem sz_44 : szOf Tryz.prog 44 = some (1) := rfl
@[go_sem] theorem sz_45 : szOf Tryz.prog 45 = some (1) := rfl
@[go_sem] theorem sz_47 : szOf Tryz.prog 47 = some (5) := rfl
@[go_sem] theorem sz_51 : szOf Tryz.prog 51 = some (3) := rfl
@[go_sem] theorem sz_54 : szOf Tryz.prog 54 = some (3) := rfl
@[go_sem] theorem sz_56 : szOf Tryz.prog 56 = some (6) := rfl
@[go_sem] theorem sz_58 : szOf Tryz.prog 58 = some (1) := rfl
@[go_sem] theorem sz_60 : szOf Tryz.prog 60 = some (1) := rfl
@[go_sem] theorem sz_61 : szOf Tryz.prog 61 = some (1) := rfl
@[go_sem] theorem sz_64 : szOf Tryz.prog 64 = some (1) := rfl
@[go_sem] theorem sz_65 : szOf Tryz.prog 65 = some (1) := rfl
@[go_sem] theorem sz_67 : szOf Tryz.prog 67 = some (2) := rfl
@[go_sem] theorem sz_76 : szOf Tryz.prog 76 = some (1) := rfl
@[go_sem] theorem sz_79 : szOf Tryz.prog 79 = some (1) := rfl
@[go_sem] theorem sz_81 : szOf Tryz.prog 81 = some (9) := rfl
@[go_sem] theorem sz_86 : szOf Tryz.prog 86 = some (1) := rfl
@[go_sem] theorem sz_9 : szOf Tryz.prog 9 = some (1) := rfl
@[go_sem] theorem tk_106 : tk Tryz.prog 106 = .slice 1 24 := rfl
@[go_sem] theorem tk_132 : tk Tryz.prog 132 = .slice 1 8 := rfl
@[go_sem] theorem tk_151 : tk Tryz.prog 151 = .slice 9 128 := rfl
@[go_sem] theorem tk_152 : tk Tryz.prog 152 = .slice 7 80 := rfl
@[go_sem] theorem tk_161 : tk Tryz.prog 161 = .slice 13 192 := rfl
@[go_sem] theorem tk_199 : tk Tryz.prog 199 = .slice 5 64 := rfl
@[go_sem] theorem tk_201 : tk Tryz.prog 201 = .slice 10 144 := rfl
@[go_sem] theorem tk_219 : tk Tryz.prog 219 = .slice 1 1 := rfl
@[go_sem] theorem tk_22 : tk Tryz.prog 22 = .slice 1 8 := rfl
@[go_sem] theorem tk_23 : tk Tryz.prog 23 = .slice 5 112 := rfl
@[go_sem] theorem tk_237 : tk Tryz.prog 237 = .slice 10 192 := rfl
@[go_sem] theorem tk_238 : tk Tryz.prog 238 = .slice 15 200 := rfl
@[go_sem] theorem tk_261 : tk Tryz.prog 261 = .slice 1 24 := rfl
@[go_sem] theorem tk_267 : tk Tryz.prog 267 = .slice 3 40 := rfl
@[go_sem] theorem tk_3 : tk Tryz.prog 3 = .other := rfl
@[go_sem] theorem tk_302 : tk Tryz.prog 302 = .other := rfl
@[go_sem] theorem tk_32 : tk Tryz.prog 32 = .slice 1 16 := rfl
@[go_sem] theorem tk_384 : tk Tryz.prog 384 = .arr 6 := rfl
@[go_sem] theorem tk_43 : tk Tryz.prog 43 = .slice 6 64 := rfl
@[go_sem] theorem tk_44 : tk Tryz.prog 44 = .slice 3 56 := rfl
@[go_sem] theorem tk_45 : tk Tryz.prog 45 = .slice 3 48 := rfl
@[go_sem] theorem tk_60 : tk Tryz.prog 60 = .slice 1 1 := rfl
@[go_sem] theorem tk_64 : tk Tryz.prog 64 = .slice 2 40 := rfl
@[go_sem] theorem tk_65 : tk Tryz.prog 65 = .slice 10 136 := rfl
@[go_sem] theorem tk_74 : tk Tryz.prog 74 = .slice 2 40 := rfl
@[go_sem] theorem tk_79 : tk Tryz.prog 79 = .slice 3 32 := rfl
@[go_sem] theorem tk_82 : tk Tryz.prog 82 = .slice 9 120 := rfl
@[go_sem] theorem tk_83 : tk Tryz.prog 83 = .slice 5 56 := rfl
@[go_sem] theorem tk_86 : tk Tryz.prog 86 = .slice 1 24 := rfl
@[go_sem] theorem tk_9 : tk Tryz.prog 9 = .str := rfl
@[go_sem] theorem zv_106 : zv Tryz.prog 106 = some (.nils) := rfl
@[go_sem] theorem zv_109 : zv Tryz.prog 109 = some (.agg [.str [], .nils, .bool false]) := rfl
@[go_sem] theorem zv_121 : zv Tryz.prog 121 = some (.agg [.bool false]) := rfl
@[go_sem] theorem zv_150 : zv Tryz.prog 150 = some (.nilp) := rfl
@[go_sem] theorem zv_154 : zv Tryz.prog 154 = some (.agg [.str [], .str [], .bool false, .bool false, .bool false, .bool false, .nils, .nils, .nils, .nils]) := rfl
@[go_sem] theorem zv_158 : zv Tryz.prog 158 = some (.agg [.str [], .nils]) := rfl
@[go_sem] theorem zv_163 : zv Tryz.prog 163 = some (.agg [.str [], .int .i64 0, .str [], .bool false, .int .i64 0, .int .i64 0, .str [], .nils, .nils]) := rfl
@[go_sem] theorem zv_167 : zv Tryz.prog 167 = some (.agg [.str [], .int .i64 0, .str [], .str [], .bool false, .int .i64 0, .bool false]) := rfl
@[go_sem] theorem zv_176 : zv Tryz.prog 176 = some (.agg [.nils, .nils]) := rfl
@[go_sem] theorem zv_198 : zv Tryz.prog 198 = some (.agg [.nils, .nils, .nils, .nils, .nilm, .nilm, .nilm]) := rfl
@[go_sem] theorem zv_199 : zv Tryz.prog 199 = some (.nils) := rfl
@[go_sem] theorem zv_204 : zv Tryz.prog 204 = some (.agg [.str [], .str [], .int .i64 0, .str [], .bool false, .int .i64 0, .int .i64 0, .str [], .nils, .nils]) := rfl
@[go_sem] theorem zv_208 : zv Tryz.prog 208 = some (.agg [.str [], .str [], .int .i64 0, .int .i64 0, .int .i64 0]) := rfl
@[go_sem] theorem zv_213 : zv Tryz.prog 213 = some (.nilf) := rfl
@[go_sem] theorem zv_221 : zv Tryz.prog 221 = some (.agg [.nilp, .nils]) := rfl
@[go_sem] theorem zv_240 : zv Tryz.prog 240 = some (.agg [.int .i64 0, .int .i64 0, .int .i64 0, .int .i64 0, .int .i64 0, .str [], .str [], .str [], .bool false, .nils, .nils, .nils, .nils]) := rfl
@[go_sem] theorem zv_25 : zv Tryz.prog 25 = some (.agg [.nils]) := rfl
@[go_sem] theorem zv_286 : zv Tryz.prog 286 = some (.agg [.str [], .str [], .int .i64 0, .str [], .bool false]) := rfl
@[go_sem] theorem zv_29 : zv Tryz.prog 29 = some (.agg [.nils, .int .i64 0]) := rfl
@[go_sem] theorem zv_3 : zv Tryz.prog 3 = some (.int .i64 0) := rfl
@[go_sem] theorem zv_32 : zv Tryz.prog 32 = some (.nils) := rfl
@[go_sem] theorem zv_325 : zv Tryz.prog 325 = some (.agg [.nils, .nils]) := rfl
@[go_sem] theorem zv_328 : zv Tryz.prog 328 = some (.agg [.str [], .str [], .int .i64 0]) := rfl
@[go_sem] theorem zv_356 : zv Tryz.prog 356 = some (.agg [.int .i64 0, .int .i64 0, .int .i64 0]) := rfl
@[go_sem] theorem zv_374 : zv Tryz.prog 374 = some (.agg [.str [], .bool false, .bool false]) := rfl
@[go_sem] theorem zv_384 : zv Tryz.prog 384 = some (.agg [.int .i64 0, .int .i64 0, .int .i64 0, .int .i64 0, .int .i64 0, .int .i64 0]) := rfl
@[go_sem] theorem zv_394 : zv Tryz.prog 394 = some (.int .u64 0) := rfl
@[go_sem] theorem zv_404 : zv Tryz.prog 404 = some (.nilm) := rfl
@[go_sem] theorem zv_47 : zv Tryz.prog 47 = some (.agg [.str [], .nils, .nils, .nils, .nils]) := rfl
@[go_sem] theorem zv_51 : zv Tryz.prog 51 = some (.agg [.str [], .nils, .str []]) := rfl
@[go_sem] theorem zv_54 : zv Tryz.prog 54 = some (.agg [.int .i64 0, .int .i64 0, .str []]) := rfl
@[go_sem] theorem zv_56 : zv Tryz.prog 56 = some (.agg [.str [], .int .i64 0, .bool false, .int .i64 0, .int .i64 0, .str []]) := rfl
@[go_sem] theorem zv_58 : zv Tryz.prog 58 = some (.nils) := rfl
@[go_sem] theorem zv_60 : zv Tryz.prog 60 = some (.nils) := rfl
@[go_sem] theorem zv_61 : zv Tryz.prog 61 = some (.nilf) := rfl
@[go_sem] theorem zv_67 : zv Tryz.prog 67 = some (.agg [.nils, .nils]) := rfl
@[go_sem] theorem zv_76 : zv Tryz.prog 76 = some (.agg [.nils]) := rfl
@[go_sem] theorem zv_81 : zv Tryz.prog 81 = some (.agg [.str [], .int .i64 0, .int .i64 0, .int .i64 0, .int .i64 0, .int .i64 0, .str [], .nils, .nils]) := rfl
@[go_sem] theorem zv_85 : zv Tryz.prog 85 = some (.agg [.nils, .nils]) := rfl
@[go_sem] theorem zv_9 : zv Tryz.prog 9 = some (.str []) := rfl
@[go_sem] theorem zv_4 : zv Tryz.prog 4 = some (.bool false) := rfl
@[go_sem] theorem live_4_0 : K.live 4 0 = some ([0, 2, 3, 8, 9], [], []) := rfl
@[go_sem] theorem out_4_0 : K.out 4 0 = some [2, 3] := rfl
@[go_sem] theorem live_4_1 : K.live 4 1 = none := rfl
@[go_sem] theorem out_4_1 : K.out 4 1 = none := rfl
@[go_sem] theorem live_5_0 : K.live 5 0 = some ([1, 19, 20, 21], [], []) := rfl
@[go_sem] theorem out_5_0 : K.out 5 0 = some [1] := rfl
@[go_sem] theorem live_5_1 : K.live 5 1 = none := rfl
@[go_sem] theorem out_5_1 : K.out 5 1 = none := rfl
@[go_sem] theorem live_5_2 : K.live 5 2 = some ([1, 49, 50, 51], [], []) := rfl
@[go_sem] theorem out_5_2 : K.out 5 2 = some [] := rfl
@[go_sem] theorem live_5_3 : K.live 5 3 = none := rfl
@[go_sem] theorem out_5_3 : K.out 5 3 = none := rfl
@[go_sem] theorem live_5_4 : K.live 5 4 = some ([1, 8, 49, 50, 51, 56, 57, 58], [], []) := rfl
@[go_sem] theorem out_5_4 : K.out 5 4 = some [1, 49, 50, 51] := rfl
@[go_sem] theorem live_5_5 : K.live 5 5 = none := rfl
@[go_sem] theorem out_5_5 : K.out 5 5 = none := rfl
@[go_sem] theorem live_5_6 : K.live 5 6 = some ([1, 8, 10, 11, 49, 50, 51, 56, 57, 58, 84, 85, 86], [], []) := rfl
@[go_sem] theorem out_5_6 : K.out 5 6 = some [1, 8, 49, 50, 51, 56, 57, 58] := rfl
@[go_sem] theorem live_5_7 : K.live 5 7 = none := rfl
@[go_sem] theorem out_5_7 : K.out 5 7 = none := rfl
@[go_sem] theorem dyn_5_6 : K.dyn 5 6 = [] := rfl
@[go_sem] theorem dyn_5_22 : K.dyn 5 22 = [] := rfl
@[go_sem] theorem dyn_5_27 : K.dyn 5 27 = [] := rfl
@[go_sem] theorem live_6_0 : K.live 6 0 = some ([1, 7, 8, 9, 10, 30, 31, 32], [(10, none, 1, false)], []) := rfl
@[go_sem] theorem out_6_0 : K.out 6 0 = some [1, 7, 8, 9, 10] := rfl
@[go_sem] theorem live_6_1 : K.live 6 1 = none := rfl
@[go_sem] theorem out_6_1 : K.out 6 1 = none := rfl
@[go_sem] theorem live_6_2 : K.live 6 2 = some ([1, 7, 8, 9, 10, 11, 12, 30, 31, 32, 37, 38], [(10, none, 1, false)], []) := rfl
@[go_sem] theorem out_6_2 : K.out 6 2 = some [1, 7, 8, 9, 10, 30, 31, 32] := rfl
@[go_sem] theorem live_6_3 : K.live 6 3 = none := rfl
@[go_sem] theorem out_6_3 : K.out 6 3 = none := rfl
@[go_sem] theorem live_6_4 : K.live 6 4 = some ([1, 7, 8, 9, 10, 14], [(9, none, 1, false)], []) := rfl
@[go_sem] theorem out_6_4 : K.out 6 4 = some [9, 10] := rfl
@[go_sem] theorem live_6_5 : K.live 6 5 = none := rfl
@[go_sem] theorem out_6_5 : K.out 6 5 = none := rfl
@[go_sem] theorem live_6_6 : K.live 6 6 = some ([1, 7, 8, 9, 10, 14, 59, 60, 61], [(9, none, 1, false)], []) := rfl
@[go_sem] theorem out_6_6 : K.out 6 6 = some [1, 7, 8, 9, 10, 14] := rfl
@[go_sem] theorem live_6_7 : K.live 6 7 = none := rfl
@[go_sem] theorem out_6_7 : K.out 6 7 = none := rfl
@[go_sem] theorem live_9_0 : K.live 9 0 = some ([1, 2, 3, 4, 14, 15, 16], [(3, none, 1, false)], []) := rfl
@[go_sem] theorem out_9_0 : K.out 9 0 = some [1, 2, 3, 4] := rfl
@[go_sem] theorem live_9_1 : K.live 9 1 = none := rfl
@[go_sem] theorem out_9_1 : K.out 9 1 = none := rfl
@[go_sem] theorem live_9_2 : K.live 9 2 = some ([1, 2, 3, 4, 5, 6, 14, 15, 16, 23, 24], [(3, none, 1, false)], []) := rfl
@[go_sem] theorem out_9_2 : K.out 9 2 = some [1, 2, 3, 4, 14, 15, 16] := rfl
@[go_sem] theorem live_9_3 : K.live 9 3 = none := rfl
@[go_sem] theorem out_9_3 : K.out 9 3 = none := rfl
@[go_sem] theorem live_9_4 : K.live 9 4 = some ([1, 2, 3, 4], [], []) := rfl
@[go_sem] theorem out_9_4 : K.out 9 4 = some [2, 3] := rfl
@[go_sem] theorem live_9_5 : K.live 9 5 = none := rfl
@[go_sem] theorem out_9_5 : K.out 9 5 = none := rfl
@[go_sem] theorem live_9_6 : K.live 9 6 = some ([1, 2, 3, 4, 69, 70, 71], [], []) := rfl
@[go_sem] theorem out_9_6 : K.out 9 6 = some [1, 2, 3, 4] := rfl
@[go_sem] theorem live_9_7 : K.live 9 7 = none := rfl
@[go_sem] theorem out_9_7 : K.out 9 7 = none := rfl
@[go_sem] theorem live_10_0 : K.live 10 0 = some ([0, 1, 12, 13], [], []) := rfl
@[go_sem] theorem out_10_0 : K.out 10 0 = some [] := rfl
@[go_sem] theorem live_10_1 : K.live 10 1 = none := rfl
@[go_sem] theorem out_10_1 : K.out 10 1 = none := rfl
@[go_sem] theorem dyn_10_6 : K.dyn 10 6 = [] := rfl
@[go_sem] theorem live_11_0 : K.live 11 0 = some ([0, 2, 3, 16, 17], [(3, some 0, 5, false)], []) := rfl
@[go_sem] theorem out_11_0 : K.out 11 0 = some [0, 2, 3] := rfl
@[go_sem] theorem live_11_1 : K.live 11 1 = none := rfl
@[go_sem] theorem out_11_1 : K.out 11 1 = none := rfl
@[go_sem] theorem live_11_2 : K.live 11 2 = some ([0, 2, 3, 34, 35], [], []) := rfl
@[go_sem] theorem out_11_2 : K.out 11 2 = some [2, 3] := rfl
@[go_sem] theorem live_11_3 : K.live 11 3 = none := rfl
@[go_sem] theorem out_11_3 : K.out 11 3 = none := rfl
@[go_sem] theorem live_11_4 : K.live 11 4 = some ([0, 2, 3, 5, 6, 7, 34, 35, 67, 68, 69], [(7, some 1, 1, false)], []) := rfl
@[go_sem] theorem out_11_4 : K.out 11 4 = some [0, 2, 3, 5, 7, 34, 35] := rfl
@[go_sem] theorem live_11_5 : K.live 11 5 = none := rfl
@[go_sem] theorem out_11_5 : K.out 11 5 = none := rfl
@[go_sem] theorem live_11_6 : K.live 11 6 = some ([0, 2, 3, 5, 6, 7, 10, 34, 35, 67, 68, 69, 85, 86, 87], [], []) := rfl
@[go_sem] theorem out_11_6 : K.out 11 6 = some [0, 2, 3, 5, 6, 7, 34, 35, 67, 68, 69] := rfl
@[go_sem] theorem live_11_7 : K.live 11 7 = none := rfl
@[go_sem] theorem out_11_7 : K.out 11 7 = none := rfl
@[go_sem] theorem dyn_11_5 : K.dyn 11 5 = [(8,20)] := rfl
@[go_sem] theorem dyn_11_9 : K.dyn 11 9 = [(6,37), (6,45), (6,48), (14,37), (14,38), (14,45)] := rfl
@[go_sem] theorem dyn_11_10 : K.dyn 11 10 = [] := rfl
@[go_sem] theorem dyn_11_14 : K.dyn 11 14 = [(5,73)] := rfl
@[go_sem] theorem dyn_11_24 : K.dyn 11 24 = [] := rfl
@[go_sem] theorem dyn_11_25 : K.dyn 11 25 = [(7,132), (7,7), (7,140), (10,132)] := rfl
@[go_sem] theorem live_13_0 : K.live 13 0 = none := rfl
@[go_sem] theorem out_13_0 : K.out 13 0 = none := rfl
@[go_sem] theorem dyn_13_4 : K.dyn 13 4 = [(6,15)] := rfl
@[go_sem] theorem dyn_13_7 : K.dyn 13 7 = [(10,35), (12,35)] := rfl
@[go_sem] theorem dyn_13_13 : K.dyn 13 13 = [(10,75), (12,75)] := rfl
@[go_sem] theorem dyn_13_15 : K.dyn 13 15 = [(10,92), (13,92)] := rfl
@[go_sem] theorem dyn_13_19 : K.dyn 13 19 = [(5,129), (5,130), (5,131), (8,129), (8,130), (8,131), (16,124), (16,127), (16,129), (16,130), (16,131)] := rfl
@[go_sem] theorem dyn_13_21 : K.dyn 13 21 = [(5,160), (5,161), (8,160), (8,161), (13,150), (13,153), (13,160), (13,161), (20,150), (20,153), (20,155), (20,158), (20,160), (20,161)] := rfl
@[go_sem] theorem live_14_0 : K.live 14 0 = none := rfl
@[go_sem] theorem out_14_0 : K.out 14 0 = none := rfl
@[go_sem] theorem live_15_0 : K.live 15 0 = some ([1, 41, 42, 43], [], []) := rfl
@[go_sem] theorem out_15_0 : K.out 15 0 = some [1] := rfl
@[go_sem] theorem live_15_1 : K.live 15 1 = none := rfl
@[go_sem] theorem out_15_1 : K.out 15 1 = none := rfl
@[go_sem] theorem live_15_2 : K.live 15 2 = none := rfl
@[go_sem] theorem out_15_2 : K.out 15 2 = none := rfl
@[go_sem] theorem live_15_3 : K.live 15 3 = some ([1, 77, 78, 79], [], []) := rfl
@[go_sem] theorem out_15_3 : K.out 15 3 = some [1] := rfl
@[go_sem] theorem live_15_4 : K.live 15 4 = none := rfl
@[go_sem] theorem out_15_4 : K.out 15 4 = none := rfl
@[go_sem] theorem live_15_5 : K.live 15 5 = none := rfl
@[go_sem] theorem out_15_5 : K.out 15 5 = none := rfl
@[go_sem] theorem live_15_6 : K.live 15 6 = some ([1, 106, 107, 108], [], []) := rfl
@[go_sem] theorem out_15_6 : K.out 15 6 = some [1] := rfl
@[go_sem] theorem live_15_7 : K.live 15 7 = none := rfl
@[go_sem] theorem out_15_7 : K.out 15 7 = none := rfl
@[go_sem] theorem live_15_8 : K.live 15 8 = some ([1, 138, 139, 140], [], []) := rfl
@[go_sem] theorem out_15_8 : K.out 15 8 = some [] := rfl
@[go_sem] theorem live_15_9 : K.live 15 9 = none := rfl
@[go_sem] theorem out_15_9 : K.out 15 9 = none := rfl
@[go_sem] theorem live_15_10 : K.live 15 10 = none := rfl
@[go_sem] theorem out_15_10 : K.out 15 10 = none := rfl
@[go_sem] theorem dyn_15_8 : K.dyn 15 8 = [] := rfl
@[go_sem] theorem dyn_15_30 : K.dyn 15 30 = [] := rfl
@[go_sem] theorem dyn_15_40 : K.dyn 15 40 = [] := rfl
@[go_sem] theorem live_18_0 : K.live 18 0 = some ([1, 3, 4, 18, 19, 20], [], []) := rfl
@[go_sem] theorem out_18_0 : K.out 18 0 = some [3, 4] := rfl
@[go_sem] theorem live_18_1 : K.live 18 1 = none := rfl
@[go_sem] theorem out_18_1 : K.out 18 1 = none := rfl
@[go_sem] theorem live_18_2 : K.live 18 2 = some ([1, 3, 4, 5, 18, 19, 20, 31, 32, 33], [], []) := rfl
@[go_sem] theorem out_18_2 : K.out 18 2 = some [1, 3, 4, 18, 19, 20] := rfl
@[go_sem] theorem live_18_3 : K.live 18 3 = none := rfl
@[go_sem] theorem out_18_3 : K.out 18 3 = none := rfl
@[go_sem] theorem live_18_4 : K.live 18 4 = some ([3, 4, 48, 49], [], []) := rfl
@[go_sem] theorem out_18_4 : K.out 18 4 = some [4] := rfl
@[go_sem] theorem live_18_5 : K.live 18 5 = none := rfl
@[go_sem] theorem out_18_5 : K.out 18 5 = none := rfl
@[go_sem] theorem live_18_6 : K.live 18 6 = some ([3, 4, 9, 48, 49, 52, 53], [], []) := rfl
@[go_sem] theorem out_18_6 : K.out 18 6 = some [3, 4, 48, 49] := rfl
@[go_sem] theorem live_18_7 : K.live 18 7 = none := rfl
@[go_sem] theorem out_18_7 : K.out 18 7 = none := rfl
@[go_sem] theorem live_18_8 : K.live 18 8 = some ([3, 4, 9, 10, 48, 49, 52, 53, 56, 57], [], []) := rfl
@[go_sem] theorem out_18_8 : K.out 18 8 = some [3, 4, 9, 48, 49, 52, 53] := rfl
@[go_sem] theorem live_18_9 : K.live 18 9 = none := rfl
@[go_sem] theorem out_18_9 : K.out 18 9 = none := rfl
@[go_sem] theorem dyn_18_10 : K.dyn 18 10 = [] := rfl
@[go_sem] theorem dyn_18_22 : K.dyn 18 22 = [] := rfl
@[go_sem] theorem live_23_0 : K.live 23 0 = some ([0, 2, 6, 7, 24, 25, 26], [], []) := rfl
@[go_sem] theorem out_23_0 : K.out 23 0 = some [0, 2, 6, 7] := rfl
@[go_sem] theorem live_23_1 : K.live 23 1 = none := rfl
@[go_sem] theorem out_23_1 : K.out 23 1 = none := rfl
@[go_sem] theorem live_27_0 : K.live 27 0 = some ([6, 7, 8], [], []) := rfl
@[go_sem] theorem out_27_0 : K.out 27 0 = some [] := rfl
@[go_sem] theorem live_27_1 : K.live 27 1 = none := rfl
@[go_sem] theorem out_27_1 : K.out 27 1 = none := rfl
@[go_sem] theorem live_29_0 : K.live 29 0 = some ([1, 7, 8], [], []) := rfl
@[go_sem] theorem out_29_0 : K.out 29 0 = some [] := rfl
@[go_sem] theorem live_29_1 : K.live 29 1 = none := rfl
@[go_sem] theorem out_29_1 : K.out 29 1 = none := rfl
@[go_sem] theorem dyn_34_1 : K.dyn 34 1 = [] := rfl
@[go_sem] theorem live_36_0 : K.live 36 0 = some ([1, 3, 4, 18, 19, 20], [], []) := rfl
@[go_sem] theorem out_36_0 : K.out 36 0 = some [3, 4] := rfl
@[go_sem] theorem live_36_1 : K.live 36 1 = none := rfl
@[go_sem] theorem out_36_1 : K.out 36 1 = none := rfl
@[go_sem] theorem live_36_2 : K.live 36 2 = some ([1, 3, 4, 5, 18, 19, 20, 31, 32, 33], [], []) := rfl
@[go_sem] theorem out_36_2 : K.out 36 2 = some [1, 3, 4, 18, 19, 20] := rfl
@[go_sem] theorem live_36_3 : K.live 36 3 = none := rfl
@[go_sem] theorem out_36_3 : K.out 36 3 = none := rfl
@[go_sem] theorem live_36_4 : K.live 36 4 = some ([3, 4, 48, 49], [], []) := rfl
@[go_sem] theorem out_36_4 : K.out 36 4 = some [4] := rfl
@[go_sem] theorem live_36_5 : K.live 36 5 = none := rfl
@[go_sem] theorem out_36_5 : K.out 36 5 = none := rfl
@[go_sem] theorem live_36_6 : K.live 36 6 = some ([3, 4, 9, 48, 49, 52, 53], [], []) := rfl
@[go_sem] theorem out_36_6 : K.out 36 6 = some [3, 4, 48, 49] := rfl
@[go_sem] theorem live_36_7 : K.live 36 7 = none := rfl
@[go_sem] theorem out_36_7 : K.out 36 7 = none := rfl
@[go_sem] theorem live_36_8 : K.live 36 8 = some ([3, 4, 9, 10, 48, 49, 52, 53, 56, 57], [], []) := rfl
@[go_sem] theorem out_36_8 : K.out 36 8 = some [3, 4, 9, 48, 49, 52, 53] := rfl
@[go_sem] theorem live_36_9 : K.live 36 9 = none := rfl
@[go_sem] theorem out_36_9 : K.out 36 9 = none := rfl
@[go_sem] theorem dyn_36_10 : K.dyn 36 10 = [] := rfl
@[go_sem] theorem dyn_36_22 : K.dyn 36 22 = [] := rfl
@[go_sem] theorem dyn_38_2 : K.dyn 38 2 = [] := rfl
@[go_sem] theorem live_40_0 : K.live 40 0 = some ([0, 4, 5, 33, 34], [], []) := rfl
@[go_sem] theorem out_40_0 : K.out 40 0 = some [0, 4, 5] := rfl
@[go_sem] theorem live_40_1 : K.live 40 1 = none := rfl
@[go_sem] theorem out_40_1 : K.out 40 1 = none := rfl
@[go_sem] theorem live_40_2 : K.live 40 2 = some ([0, 4, 5, 51, 52], [(5, some 4, 3, false)], []) := rfl
@[go_sem] theorem out_40_2 : K.out 40 2 = some [4, 5] := rfl
@[go_sem] theorem live_40_3 : K.live 40 3 = none := rfl
@[go_sem] theorem out_40_3 : K.out 40 3 = none := rfl
@[go_sem] theorem live_40_4 : K.live 40 4 = some ([0, 4, 5, 8, 51, 52, 74, 75, 76], [(8, some 1, 1, false)], []) := rfl
@[go_sem] theorem out_40_4 : K.out 40 4 = some [0, 4, 5, 8, 51, 52] := rfl
@[go_sem] theorem live_40_5 : K.live 40 5 = none := rfl
@[go_sem] theorem out_40_5 : K.out 40 5 = none := rfl
@[go_sem] theorem dyn_40_3 : K.dyn 40 3 = [(4,18)] := rfl
@[go_sem] theorem dyn_40_8 : K.dyn 40 8 = [(8,37)] := rfl
@[go_sem] theorem dyn_40_14 : K.dyn 40 14 = [(4,69), (10,73)] := rfl
@[go_sem] theorem dyn_40_17 : K.dyn 40 17 = [] := rfl
@[go_sem] theorem dyn_41_4 : K.dyn 41 4 = [] := rfl
@[go_sem] theorem dyn_41_5 : K.dyn 41 5 = [] := rfl
@[go_sem] theorem live_42_0 : K.live 42 0 = some ([0, 1, 7, 8], [], []) := rfl
@[go_sem] theorem out_42_0 : K.out 42 0 = some [] := rfl
@[go_sem] theorem live_42_1 : K.live 42 1 = none := rfl
@[go_sem] theorem out_42_1 : K.out 42 1 = none := rfl
@[go_sem] theorem live_49_0 : K.live 49 0 = none := rfl
@[go_sem] theorem out_49_0 : K.out 49 0 = none := rfl
@[go_sem] theorem live_52_0 : K.live 52 0 = some ([1, 2, 7, 8, 9], [], []) := rfl
@[go_sem] theorem out_52_0 : K.out 52 0 = some [] := rfl
@[go_sem] theorem live_52_1 : K.live 52 1 = none := rfl
@[go_sem] theorem out_52_1 : K.out 52 1 = none := rfl
@[go_sem] theorem live_53_0 : K.live 53 0 = some ([0, 1, 7, 8], [], []) := rfl
@[go_sem] theorem out_53_0 : K.out 53 0 = some [] := rfl
@[go_sem] theorem live_53_1 : K.live 53 1 = none := rfl
@[go_sem] theorem out_53_1 : K.out 53 1 = none := rfl
@[go_sem] theorem live_56_0 : K.live 56 0 = some ([0, 1, 7, 8], [], []) := rfl
@[go_sem] theorem out_56_0 : K.out 56 0 = some [] := rfl
@[go_sem] theorem live_56_1 : K.live 56 1 = none := rfl
@[go_sem] theorem out_56_1 : K.out 56 1 = none := rfl
@[go_sem] theorem live_59_0 : K.live 59 0 = none := rfl
@[go_sem] theorem out_59_0 : K.out 59 0 = none := rfl
@[go_sem] theorem dyn_59_10 : K.dyn 59 10 = [(7,51), (8,51)] := rfl
@[go_sem] theorem dyn_59_13 : K.dyn 59 13 = [(7,71)] := rfl
@[go_sem] theorem dyn_59_15 : K.dyn 59 15 = [(7,90)] := rfl
@[go_sem] theorem dyn_59_17 : K.dyn 59 17 = [] := rfl
@[go_sem] theorem dyn_59_18 : K.dyn 59 18 = [(7,124)] := rfl
@[go_sem] theorem dyn_59_22 : K.dyn 59 22 = [(11,153)] := rfl
@[go_sem] theorem dyn_59_24 : K.dyn 59 24 = [(7,172)] := rfl
@[go_sem] theorem dyn_59_26 : K.dyn 59 26 = [(7,187)] := rfl
@[go_sem] theorem live_60_0 : K.live 60 0 = some ([1, 3, 19, 20, 21], [(3, none, 1, false)], []) := rfl
@[go_sem] theorem out_60_0 : K.out 60 0 = some [1, 3] := rfl
@[go_sem] theorem live_60_1 : K.live 60 1 = none := rfl
@[go_sem] theorem out_60_1 : K.out 60 1 = none := rfl
@[go_sem] theorem live_60_2 : K.live 60 2 = some ([1, 3, 19, 20, 21, 32, 33, 34], [(3, none, 1, false)], []) := rfl
@[go_sem] theorem out_60_2 : K.out 60 2 = some [1, 3, 19, 20, 21] := rfl
@[go_sem] theorem live_60_3 : K.live 60 3 = none := rfl
@[go_sem] theorem out_60_3 : K.out 60 3 = none := rfl
@[go_sem] theorem live_60_4 : K.live 60 4 = some ([3, 46, 47, 48], [(3, none, 1, false)], []) := rfl
@[go_sem] theorem out_60_4 : K.out 60 4 = some [3] := rfl
@[go_sem] theorem live_60_5 : K.live 60 5 = none := rfl
@[go_sem] theorem out_60_5 : K.out 60 5 = none := rfl
@[go_sem] theorem live_60_6 : K.live 60 6 = some ([3, 9, 46, 47, 48, 58, 59, 60], [(3, none, 1, false)], []) := rfl
@[go_sem] theorem out_60_6 : K.out 60 6 = some [3, 9, 46, 47, 48] := rfl
@[go_sem] theorem live_60_7 : K.live 60 7 = none := rfl
@[go_sem] theorem out_60_7 : K.out 60 7 = none := rfl
@[go_sem] theorem live_60_8 : K.live 60 8 = some ([3, 9, 46, 47, 48, 71, 72, 73], [(3, none, 1, false)], []) := rfl
@[go_sem] theorem out_60_8 : K.out 60 8 = some [3, 9, 46, 47, 48] := rfl
@[go_sem] theorem live_60_9 : K.live 60 9 = none := rfl
@[go_sem] theorem out_60_9 : K.out 60 9 = none := rfl
@[go_sem] theorem live_60_10 : K.live 60 10 = some ([3, 9, 46, 47, 48, 84, 85, 86], [(3, none, 1, false)], []) := rfl
@[go_sem] theorem out_60_10 : K.out 60 10 = some [3, 9, 46, 47, 48] := rfl
@[go_sem] theorem live_60_11 : K.live 60 11 = none := rfl
@[go_sem] theorem out_60_11 : K.out 60 11 = none := rfl
@[go_sem] theorem live_60_12 : K.live 60 12 = some ([3, 46, 47, 48, 99, 100, 101], [(3, none, 1, false)], []) := rfl
@[go_sem] theorem out_60_12 : K.out 60 12 = some [3, 46, 47, 48] := rfl
@[go_sem] theorem live_60_13 : K.live 60 13 = none := rfl
@[go_sem] theorem out_60_13 : K.out 60 13 = none := rfl
@[go_sem] theorem live_62_0 : K.live 62 0 = some ([2, 3, 9, 10, 11], [(3, none, 5, true)], []) := rfl
@[go_sem] theorem out_62_0 : K.out 62 0 = some [2, 3] := rfl
@[go_sem] theorem live_62_1 : K.live 62 1 = none := rfl
@[go_sem] theorem out_62_1 : K.out 62 1 = none := rfl
@[go_sem] theorem live_62_2 : K.live 62 2 = some ([2, 3, 5, 9, 10, 11, 33, 34], [], []) := rfl
@[go_sem] theorem out_62_2 : K.out 62 2 = some [2, 3, 5, 9, 10, 11] := rfl
@[go_sem] theorem live_62_3 : K.live 62 3 = none := rfl
@[go_sem] theorem out_62_3 : K.out 62 3 = none := rfl
@[go_sem] theorem live_62_4 : K.live 62 4 = some ([2, 3, 5, 9, 10, 11, 52, 53], [], []) := rfl
@[go_sem] theorem out_62_4 : K.out 62 4 = some [2, 3, 5, 9, 10, 11] := rfl
@[go_sem] theorem live_62_5 : K.live 62 5 = none := rfl
@[go_sem] theorem out_62_5 : K.out 62 5 = none := rfl
@[go_sem] theorem dyn_62_5 : K.dyn 62 5 = [(2,18)] := rfl
@[go_sem] theorem dyn_62_6 : K.dyn 62 6 = [(2,26), (5,26)] := rfl
@[go_sem] theorem dyn_62_10 : K.dyn 62 10 = [] := rfl
@[go_sem] theorem dyn_62_15 : K.dyn 62 15 = [] := rfl
@[go_sem] theorem live_63_0 : K.live 63 0 = some ([1, 2, 3, 14, 15], [(3, none, 5, true)], []) := rfl
@[go_sem] theorem out_63_0 : K.out 63 0 = some [2, 3] := rfl
@[go_sem] theorem live_63_1 : K.live 63 1 = none := rfl
@[go_sem] theorem out_63_1 : K.out 63 1 = none := rfl
@[go_sem] theorem live_63_2 : K.live 63 2 = some ([1, 2, 3, 5, 14, 15, 35, 36, 37], [(3, none, 5, true)], []) := rfl
@[go_sem] theorem out_63_2 : K.out 63 2 = some [1, 2, 3, 14, 15] := rfl
@[go_sem] theorem live_63_3 : K.live 63 3 = none := rfl
@[go_sem] theorem out_63_3 : K.out 63 3 = none := rfl
@[go_sem] theorem live_63_4 : K.live 63 4 = some ([2, 3, 77, 78, 79], [], []) := rfl
@[go_sem] theorem out_63_4 : K.out 63 4 = some [2, 3] := rfl
@[go_sem] theorem live_63_5 : K.live 63 5 = none := rfl
@[go_sem] theorem out_63_5 : K.out 63 5 = none := rfl
@[go_sem] theorem dyn_63_12 : K.dyn 63 12 = [] := rfl
@[go_sem] theorem live_64_0 : K.live 64 0 = some ([3, 14, 15, 16], [(3, none, 1, false)], []) := rfl
@[go_sem] theorem out_64_0 : K.out 64 0 = some [3] := rfl
@[go_sem] theorem live_64_1 : K.live 64 1 = none := rfl
@[go_sem] theorem out_64_1 : K.out 64 1 = none := rfl
@[go_sem] theorem live_64_2 : K.live 64 2 = some ([3, 5, 14, 15, 16, 27, 28, 29], [(3, none, 1, false)], []) := rfl
@[go_sem] theorem out_64_2 : K.out 64 2 = some [3, 5, 14, 15, 16] := rfl
@[go_sem] theorem live_64_3 : K.live 64 3 = none := rfl
@[go_sem] theorem out_64_3 : K.out 64 3 = none := rfl
@[go_sem] theorem live_64_4 : K.live 64 4 = some ([3, 5, 14, 15, 16, 47, 48, 49], [(3, none, 1, false)], []) := rfl
@[go_sem] theorem out_64_4 : K.out 64 4 = some [3, 5, 14, 15, 16] := rfl
@[go_sem] theorem live_64_5 : K.live 64 5 = none := rfl
@[go_sem] theorem out_64_5 : K.out 64 5 = none := rfl
@[go_sem] theorem live_64_6 : K.live 64 6 = some ([3, 14, 15, 16, 66, 67, 68], [(3, none, 1, false)], []) := rfl
@[go_sem] theorem out_64_6 : K.out 64 6 = some [3, 14, 15, 16] := rfl
@[go_sem] theorem live_64_7 : K.live 64 7 = none := rfl
@[go_sem] theorem out_64_7 : K.out 64 7 = none := rfl
@[go_sem] theorem live_66_0 : K.live 66 0 = some ([2, 5, 18, 19, 20], [], []) := rfl
@[go_sem] theorem out_66_0 : K.out 66 0 = some [5] := rfl
@[go_sem] theorem live_66_1 : K.live 66 1 = none := rfl
@[go_sem] theorem out_66_1 : K.out 66 1 = none := rfl
@[go_sem] theorem live_66_2 : K.live 66 2 = some ([2, 5, 7, 18, 19, 20, 39, 40, 41], [], []) := rfl
@[go_sem] theorem out_66_2 : K.out 66 2 = some [2, 5, 18, 19, 20] := rfl
@[go_sem] theorem live_66_3 : K.live 66 3 = none := rfl
@[go_sem] theorem out_66_3 : K.out 66 3 = none := rfl
@[go_sem] theorem dyn_66_5 : K.dyn 66 5 = [] := rfl
@[go_sem] theorem dyn_66_6 : K.dyn 66 6 = [(5,39)] := rfl
@[go_sem] theorem dyn_66_9 : K.dyn 66 9 = [] := rfl
@[go_sem] theorem live_67_0 : K.live 67 0 = some ([0, 2, 3, 4, 27, 28, 29], [], []) := rfl
@[go_sem] theorem out_67_0 : K.out 67 0 = some [0, 2, 3, 4] := rfl
@[go_sem] theorem live_67_1 : K.live 67 1 = none := rfl
@[go_sem] theorem out_67_1 : K.out 67 1 = none := rfl
@[go_sem] theorem live_67_2 : K.live 67 2 = some ([0, 2, 3, 4, 45, 46, 47], [], []) := rfl
@[go_sem] theorem out_67_2 : K.out 67 2 = some [0, 2, 3, 4] := rfl
@[go_sem] theorem live_67_3 : K.live 67 3 = none := rfl
@[go_sem] theorem out_67_3 : K.out 67 3 = none := rfl
@[go_sem] theorem live_67_4 : K.live 67 4 = some ([0, 2, 3, 4, 8, 45, 46, 47, 54, 55, 56], [], []) := rfl
@[go_sem] theorem out_67_4 : K.out 67 4 = some [0, 2, 3, 4, 45, 46, 47] := rfl
@[go_sem] theorem live_67_5 : K.live 67 5 = none := rfl
@[go_sem] theorem out_67_5 : K.out 67 5 = none := rfl
@[go_sem] theorem live_67_6 : K.live 67 6 = some ([2, 3, 4, 88, 89, 90], [], []) := rfl
@[go_sem] theorem out_67_6 : K.out 67 6 = some [2, 3, 4] := rfl
@[go_sem] theorem live_67_7 : K.live 67 7 = none := rfl
@[go_sem] theorem out_67_7 : K.out 67 7 = none := rfl
@[go_sem] theorem live_67_8 : K.live 67 8 = some ([2, 4, 122, 123, 124], [], []) := rfl
@[go_sem] theorem out_67_8 : K.out 67 8 = some [2, 4] := rfl
@[go_sem] theorem live_67_9 : K.live 67 9 = none := rfl
@[go_sem] theorem out_67_9 : K.out 67 9 = none := rfl
@[go_sem] theorem dyn_67_15 : K.dyn 67 15 = [(14,65), (14,68)] := rfl
@[go_sem] theorem dyn_67_22 : K.dyn 67 22 = [] := rfl
@[go_sem] theorem live_68_0 : K.live 68 0 = none := rfl
@[go_sem] theorem out_68_0 : K.out 68 0 = none := rfl
@[go_sem] theorem live_80_0 : K.live 80 0 = none := rfl
@[go_sem] theorem out_80_0 : K.out 80 0 = none := rfl
@[go_sem] theorem dyn_82_1 : K.dyn 82 1 = [] := rfl
@[go_sem] theorem live_84_0 : K.live 84 0 = some ([0, 1, 7, 8], [], []) := rfl
@[go_sem] theorem out_84_0 : K.out 84 0 = some [] := rfl
@[go_sem] theorem live_84_1 : K.live 84 1 = none := rfl
@[go_sem] theorem out_84_1 : K.out 84 1 = none := rfl
@[go_sem] theorem live_86_0 : K.live 86 0 = some ([0, 1, 5, 9, 10], [(5, none, 1, true)], []) := rfl
@[go_sem] theorem out_86_0 : K.out 86 0 = some [0, 1, 5] := rfl
@[go_sem] theorem live_86_1 : K.live 86 1 = none := rfl
@[go_sem] theorem out_86_1 : K.out 86 1 = none := rfl
@[go_sem] theorem live_86_2 : K.live 86 2 = some ([0, 5, 7], [], []) := rfl
@[go_sem] theorem out_86_2 : K.out 86 2 = some [5] := rfl
@[go_sem] theorem live_86_3 : K.live 86 3 = none := rfl
@[go_sem] theorem out_86_3 : K.out 86 3 = none := rfl
@[go_sem] theorem dyn_86_11 : K.dyn 86 11 = [] := rfl
@[go_sem] theorem live_89_0 : K.live 89 0 = none := rfl
@[go_sem] theorem out_89_0 : K.out 89 0 = none := rfl
@[go_sem] theorem live_90_0 : K.live 90 0 = some ([0, 3, 4, 18, 19], [], []) := rfl
@[go_sem] theorem out_90_0 : K.out 90 0 = some [4] := rfl
@[go_sem] theorem live_90_1 : K.live 90 1 = none := rfl
@[go_sem] theorem out_90_1 : K.out 90 1 = none := rfl
@[go_sem] theorem dyn_90_2 : K.dyn 90 2 = [(2,9), (7,7), (7,10)] := rfl
@[go_sem] theorem live_94_0 : K.live 94 0 = none := rfl
@[go_sem] theorem out_94_0 : K.out 94 0 = none := rfl
@[go_sem] theorem live_102_0 : K.live 102 0 = some ([0, 4, 5, 6, 101, 102, 103], [], []) := rfl
@[go_sem] theorem out_102_0 : K.out 102 0 = some [0, 4, 5, 6] := rfl
@[go_sem] theorem live_102_1 : K.live 102 1 = none := rfl
@[go_sem] theorem out_102_1 : K.out 102 1 = none := rfl
@[go_sem] theorem live_104_0 : K.live 104 0 = some ([0, 1, 7, 8, 9], [], []) := rfl
@[go_sem] theorem out_104_0 : K.out 104 0 = some [1] := rfl
@[go_sem] theorem live_104_1 : K.live 104 1 = none := rfl
@[go_sem] theorem out_104_1 : K.out 104 1 = none := rfl
@[go_sem] theorem live_105_0 : K.live 105 0 = some ([3, 62, 63, 64], [], []) := rfl
@[go_sem] theorem out_105_0 : K.out 105 0 = some [3] := rfl
@[go_sem] theorem live_105_1 : K.live 105 1 = none := rfl
@[go_sem] theorem out_105_1 : K.out 105 1 = none := rfl
@[go_sem] theorem live_106_0 : K.live 106 0 = some ([3, 25, 26, 27], [], []) := rfl
@[go_sem] theorem out_106_0 : K.out 106 0 = some [3] := rfl
@[go_sem] theorem live_106_1 : K.live 106 1 = none := rfl
@[go_sem] theorem out_106_1 : K.out 106 1 = none := rfl
@[go_sem] theorem dyn_107_1 : K.dyn 107 1 = [] := rfl
@[go_sem] theorem dyn_107_7 : K.dyn 107 7 = [] := rfl
@[go_sem] theorem live_112_0 : K.live 112 0 = none := rfl
@[go_sem] theorem out_112_0 : K.out 112 0 = none := rfl
@[go_sem] theorem dyn_115_1 : K.dyn 115 1 = [] := rfl
@[go_sem] theorem live_116_0 : K.live 116 0 = none := rfl
@[go_sem] theorem out_116_0 : K.out 116 0 = none := rfl
@[go_sem] theorem live_116_1 : K.live 116 1 = none := rfl
@[go_sem] theorem out_116_1 : K.out 116 1 = none := rfl
@[go_sem] theorem live_116_2 : K.live 116 2 = none := rfl
@[go_sem] theorem out_116_2 : K.out 116 2 = none := rfl
@[go_sem] theorem dyn_116_10 : K.dyn 116 10 = [] := rfl
@[go_sem] theorem dyn_116_13 : K.dyn 116 13 = [] := rfl
@[go_sem] theorem dyn_116_16 : K.dyn 116 16 = [] := rfl
@[go_sem] theorem dyn_116_19 : K.dyn 116 19 = [] := rfl
@[go_sem] theorem dyn_118_2 : K.dyn 118 2 = [] := rfl
@[go_sem] theorem live_119_0 : K.live 119 0 = some ([0, 3, 9, 10, 11], [], []) := rfl
@[go_sem] theorem out_119_0 : K.out 119 0 = some [0, 3] := rfl
@[go_sem] theorem live_119_1 : K.live 119 1 = none := rfl
@[go_sem] theorem out_119_1 : K.out 119 1 = none := rfl
@[go_sem] theorem live_119_2 : K.live 119 2 = some ([6, 25, 26, 27], [(6, none, 1, false)], []) := rfl
@[go_sem] theorem out_119_2 : K.out 119 2 = some [6] := rfl
@[go_sem] theorem live_119_3 : K.live 119 3 = none := rfl
@[go_sem] theorem out_119_3 : K.out 119 3 = none := rfl
@[go_sem] theorem dyn_121_1 : K.dyn 121 1 = [(6,12)] := rfl
@[go_sem] theorem live_129_0 : K.live 129 0 = some ([1, 2, 5, 15, 16, 17], [(5, none, 5, true)], []) := rfl
@[go_sem] theorem out_129_0 : K.out 129 0 = some [5] := rfl
@[go_sem] theorem live_129_1 : K.live 129 1 = none := rfl
@[go_sem] theorem out_129_1 : K.out 129 1 = none := rfl
@[go_sem] theorem dyn_129_2 : K.dyn 129 2 = [] := rfl
@[go_sem] theorem dyn_129_7 : K.dyn 129 7 = [(11,37), (13,37), (15,37)] := rfl
@[go_sem] theorem dyn_129_10 : K.dyn 129 10 = [(6,70), (6,76)] := rfl
@[go_sem] theorem dyn_130_2 : K.dyn 130 2 = [] := rfl
@[go_sem] theorem dyn_130_3 : K.dyn 130 3 = [] := rfl
@[go_sem] theorem dyn_130_5 : K.dyn 130 5 = [(12,40), (17,42)] := rfl
@[go_sem] theorem dyn_130_6 : K.dyn 130 6 = [] := rfl
@[go_sem] theorem dyn_130_7 : K.dyn 130 7 = [] := rfl
@[go_sem] theorem live_131_0 : K.live 131 0 = some ([1, 3, 5, 6, 7, 8, 10, 42, 43, 44], [], []) := rfl
@[go_sem] theorem out_131_0 : K.out 131 0 = some [1, 3, 5, 6, 7, 8, 10] := rfl
@[go_sem] theorem live_131_1 : K.live 131 1 = none := rfl
@[go_sem] theorem out_131_1 : K.out 131 1 = none := rfl
@[go_sem] theorem dyn_131_1 : K.dyn 131 1 = [] := rfl
@[go_sem] theorem dyn_131_3 : K.dyn 131 3 = [] := rfl
@[go_sem] theorem dyn_131_9 : K.dyn 131 9 = [] := rfl
@[go_sem] theorem dyn_139_1 : K.dyn 139 1 = [] := rfl
@[go_sem] theorem live_142_0 : K.live 142 0 = some ([2, 5, 6, 16, 17, 18], [(5, none, 5, false), (6, none, 5, false)], []) := rfl
@[go_sem] theorem out_142_0 : K.out 142 0 = some [5, 6] := rfl
@[go_sem] theorem live_142_1 : K.live 142 1 = none := rfl
@[go_sem] theorem out_142_1 : K.out 142 1 = none := rfl
@[go_sem] theorem live_142_2 : K.live 142 2 = some ([2, 5, 6, 9, 16, 17, 18, 28, 29, 30], [(5, none, 5, false)], []) := rfl
@[go_sem] theorem out_142_2 : K.out 142 2 = some [2, 5, 6, 9, 16, 17, 18] := rfl
@[go_sem] theorem live_142_3 : K.live 142 3 = none := rfl
@[go_sem] theorem out_142_3 : K.out 142 3 = none := rfl
@[go_sem] theorem live_142_4 : K.live 142 4 = some ([2, 5, 6, 9, 16, 17, 18, 52, 53, 54], [(6, none, 5, false)], []) := rfl
@[go_sem] theorem out_142_4 : K.out 142 4 = some [2, 5, 6, 16, 17, 18] := rfl
@[go_sem] theorem live_142_5 : K.live 142 5 = none := rfl
@[go_sem] theorem out_142_5 : K.out 142 5 = none := rfl
@[go_sem] theorem dyn_142_9 : K.dyn 142 9 = [] := rfl
@[go_sem] theorem dyn_142_14 : K.dyn 142 14 = [] := rfl
@[go_sem] theorem live_143_0 : K.live 143 0 = some ([2, 5, 13, 14, 15], [(5, none, 10, false)], []) := rfl
@[go_sem] theorem out_143_0 : K.out 143 0 = some [5] := rfl
@[go_sem] theorem live_143_1 : K.live 143 1 = none := rfl
@[go_sem] theorem out_143_1 : K.out 143 1 = none := rfl
@[go_sem] theorem live_143_2 : K.live 143 2 = none := rfl
@[go_sem] theorem out_143_2 : K.out 143 2 = none := rfl
@[go_sem] theorem live_143_3 : K.live 143 3 = some ([2, 5, 7, 13, 14, 15, 25, 26, 27], [(5, none, 10, false)], []) := rfl
@[go_sem] theorem out_143_3 : K.out 143 3 = some [2, 5, 13, 14, 15] := rfl
@[go_sem] theorem live_143_4 : K.live 143 4 = none := rfl
@[go_sem] theorem out_143_4 : K.out 143 4 = none := rfl
@[go_sem] theorem live_144_0 : K.live 144 0 = some ([0, 6, 35, 36, 37], [(6, none, 1, false)], []) := rfl
@[go_sem] theorem out_144_0 : K.out 144 0 = some [6] := rfl
@[go_sem] theorem live_144_1 : K.live 144 1 = none := rfl
@[go_sem] theorem out_144_1 : K.out 144 1 = none := rfl
@[go_sem] theorem dyn_144_5 : K.dyn 144 5 = [] := rfl
@[go_sem] theorem live_145_0 : K.live 145 0 = some ([0, 4, 5, 7, 36, 37, 38], [], []) := rfl
@[go_sem] theorem out_145_0 : K.out 145 0 = some [4, 7] := rfl
@[go_sem] theorem live_145_1 : K.live 145 1 = none := rfl
@[go_sem] theorem out_145_1 : K.out 145 1 = none := rfl
@[go_sem] theorem live_145_2 : K.live 145 2 = some ([7, 11, 62, 63, 64], [(11, none, 3, false)], []) := rfl
@[go_sem] theorem out_145_2 : K.out 145 2 = some [11] := rfl
@[go_sem] theorem live_145_3 : K.live 145 3 = none := rfl
@[go_sem] theorem out_145_3 : K.out 145 3 = none := rfl
@[go_sem] theorem dyn_145_1 : K.dyn 145 1 = [(0,15), (0,16), (0,18), (0,19), (0,21), (0,22), (0,24), (0,25), (0,27), (4,18), (4,19), (4,20), (4,21), (4,22), (4,23), (4,24), (4,25), (4,26), (4,27), (4,28), (8,17), (8,21), (8,22), (8,23), (8,24), (8,25), (8,26), (8,27), (8,28), (12,17), (12,20), (12,24), (12,25), (12,26), (12,27), (12,28), (16,17), (16,20), (16,23), (16,27), (16,28), (19,15), (19,16), (19,17), (19,18), (19,19), (19,20), (19,21), (19,22), (19,23), (19,24), (19,25), (19,26)] := rfl
@[go_sem] theorem dyn_145_2 : K.dyn 145 2 = [] := rfl
@[go_sem] theorem dyn_146_1 : K.dyn 146 1 = [] := rfl
@[go_sem] theorem live_149_0 : K.live 149 0 = some ([2, 3, 7, 8, 12, 13, 14], [(8, none, 3, false)], []) := rfl
@[go_sem] theorem out_149_0 : K.out 149 0 = some [7, 8] := rfl
@[go_sem] theorem live_149_1 : K.live 149 1 = none := rfl
@[go_sem] theorem out_149_1 : K.out 149 1 = none := rfl
@[go_sem] theorem live_151_0 : K.live 151 0 = none := rfl
@[go_sem] theorem out_151_0 : K.out 151 0 = none := rfl
@[go_sem] theorem live_153_0 : K.live 153 0 = none := rfl
@[go_sem] theorem out_153_0 : K.out 153 0 = none := rfl
@[go_sem] theorem live_154_0 : K.live 154 0 = none := rfl
@[go_sem] theorem out_154_0 : K.out 154 0 = none := rfl
@[go_sem] theorem dyn_154_1 : K.dyn 154 1 = [] := rfl
@[go_sem] theorem dyn_154_4 : K.dyn 154 4 = [] := rfl
@[go_sem] theorem dyn_154_6 : K.dyn 154 6 = [(6,31)] := rfl
@[go_sem] theorem live_156_0 : K.live 156 0 = none := rfl
@[go_sem] theorem out_156_0 : K.out 156 0 = none := rfl
@[go_sem] theorem live_170_0 : K.live 170 0 = some ([6, 7, 8], [], []) := rfl
@[go_sem] theorem out_170_0 : K.out 170 0 = some [] := rfl
@[go_sem] theorem live_170_1 : K.live 170 1 = none := rfl
@[go_sem] theorem out_170_1 : K.out 170 1 = none := rfl
@[go_sem] theorem dyn_173_3 : K.dyn 173 3 = [] := rfl
@[go_sem] theorem live_174_0 : K.live 174 0 = some ([0, 1, 8, 9], [], []) := rfl
@[go_sem] theorem out_174_0 : K.out 174 0 = some [0] := rfl
@[go_sem] theorem live_174_1 : K.live 174 1 = none := rfl
@[go_sem] theorem out_174_1 : K.out 174 1 = none := rfl
@[go_sem] theorem live_176_0 : K.live 176 0 = some ([0, 3, 4, 5, 8, 9], [(3, none, 1, false)], []) := rfl
@[go_sem] theorem out_176_0 : K.out 176 0 = some [0, 3, 5] := rfl
@[go_sem] theorem live_176_1 : K.live 176 1 = none := rfl
@[go_sem] theorem out_176_1 : K.out 176 1 = none := rfl
@[go_sem] theorem live_176_2 : K.live 176 2 = none := rfl
@[go_sem] theorem out_176_2 : K.out 176 2 = none := rfl
@[go_sem] theorem live_184_0 : K.live 184 0 = none := rfl
@[go_sem] theorem out_184_0 : K.out 184 0 = none := rfl
@[go_sem] theorem live_186_0 : K.live 186 0 = none := rfl
@[go_sem] theorem out_186_0 : K.out 186 0 = none := rfl
@[go_sem] theorem live_190_0 : K.live 190 0 = none := rfl
@[go_sem] theorem out_190_0 : K.out 190 0 = none := rfl
@[go_sem] theorem live_191_0 : K.live 191 0 = none := rfl
@[go_sem] theorem out_191_0 : K.out 191 0 = none := rfl
@[go_sem] theorem live_195_0 : K.live 195 0 = some ([2, 5, 6, 24, 25, 26], [(5, none, 1, false)], []) := rfl
@[go_sem] theorem out_195_0 : K.out 195 0 = some [5] := rfl
@[go_sem] theorem live_195_1 : K.live 195 1 = none := rfl
@[go_sem] theorem out_195_1 : K.out 195 1 = none := rfl
@[go_sem] theorem live_195_2 : K.live 195 2 = some ([2, 5, 6, 8, 24, 25, 26, 41, 42, 43], [(5, none, 1, false)], []) := rfl
@[go_sem] theorem out_195_2 : K.out 195 2 = some [2, 5, 6, 8, 24, 25, 26] := rfl
@[go_sem] theorem live_195_3 : K.live 195 3 = none := rfl
@[go_sem] theorem out_195_3 : K.out 195 3 = none := rfl
@[go_sem] theorem live_195_4 : K.live 195 4 = some ([2, 5, 6, 24, 25, 26, 54, 55, 56], [(5, none, 1, false)], []) := rfl
@[go_sem] theorem out_195_4 : K.out 195 4 = some [2, 5, 6, 24, 25, 26] := rfl
@[go_sem] theorem live_195_5 : K.live 195 5 = none := rfl
@[go_sem] theorem out_195_5 : K.out 195 5 = none := rfl
@[go_sem] theorem live_201_0 : K.live 201 0 = none := rfl
@[go_sem] theorem out_201_0 : K.out 201 0 = none := rfl
@[go_sem] theorem live_202_0 : K.live 202 0 = none := rfl
@[go_sem] theorem out_202_0 : K.out 202 0 = none := rfl
@[go_sem] theorem dyn_203_1 : K.dyn 203 1 = [] := rfl
@[go_sem] theorem dyn_204_1 : K.dyn 204 1 = [] := rfl
@[go_sem] theorem live_205_0 : K.live 205 0 = some ([0, 1, 2, 9, 10], [], []) := rfl
@[go_sem] theorem out_205_0 : K.out 205 0 = some [] := rfl
@[go_sem] theorem live_205_1 : K.live 205 1 = none := rfl
@[go_sem] theorem out_205_1 : K.out 205 1 = none := rfl
@[go_sem] theorem live_206_0 : K.live 206 0 = some ([2, 5, 10, 11, 12], [(5, none, 7, false)], []) := rfl
@[go_sem] theorem out_206_0 : K.out 206 0 = some [5] := rfl
@[go_sem] theorem live_206_1 : K.live 206 1 = none := rfl
@[go_sem] theorem out_206_1 : K.out 206 1 = none := rfl
@[go_sem] theorem live_207_0 : K.live 207 0 = some ([1, 2, 3], [], []) := rfl
@[go_sem] theorem out_207_0 : K.out 207 0 = some [1, 2] := rfl
@[go_sem] theorem live_207_1 : K.live 207 1 = none := rfl
@[go_sem] theorem out_207_1 : K.out 207 1 = none := rfl
@[go_sem] theorem dyn_207_2 : K.dyn 207 2 = [] := rfl
@[go_sem] theorem live_209_0 : K.live 209 0 = none := rfl
@[go_sem] theorem out_209_0 : K.out 209 0 = none := rfl
@[go_sem] theorem dyn_209_1 : K.dyn 209 1 = [(3,10), (5,12)] := rfl
@[go_sem] theorem dyn_209_4 : K.dyn 209 4 = [] := rfl
@[go_sem] theorem dyn_211_1 : K.dyn 211 1 = [] := rfl
@[go_sem] theorem live_212_0 : K.live 212 0 = none := rfl
@[go_sem] theorem out_212_0 : K.out 212 0 = none := rfl
@[go_sem] theorem dyn_212_4 : K.dyn 212 4 = [] := rfl
@[go_sem] theorem live_213_0 : K.live 213 0 = some ([1, 2, 3, 10, 11, 12], [], []) := rfl
@[go_sem] theorem out_213_0 : K.out 213 0 = some [1, 2, 3] := rfl
@[go_sem] theorem live_213_1 : K.live 213 1 = none := rfl
@[go_sem] theorem out_213_1 : K.out 213 1 = none := rfl
@[go_sem] theorem live_214_0 : K.live 214 0 = some ([2, 5, 12, 13, 14], [(5, none, 3, false)], []) := rfl
@[go_sem] theorem out_214_0 : K.out 214 0 = some [5] := rfl
@[go_sem] theorem live_214_1 : K.live 214 1 = none := rfl
@[go_sem] theorem out_214_1 : K.out 214 1 = none := rfl
@[go_sem] theorem live_214_2 : K.live 214 2 = some ([2, 5, 12, 13, 14, 23, 24, 25], [(5, none, 3, false)], []) := rfl
@[go_sem] theorem out_214_2 : K.out 214 2 = some [2, 5, 12, 13, 14] := rfl
@[go_sem] theorem live_214_3 : K.live 214 3 = none := rfl
@[go_sem] theorem out_214_3 : K.out 214 3 = none := rfl
@[go_sem] theorem dyn_214_5 : K.dyn 214 5 = [(5,23)] := rfl
@[go_sem] theorem live_215_0 : K.live 215 0 = some ([1, 2, 5, 9, 10, 11], [(5, none, 1, true)], []) := rfl
@[go_sem] theorem out_215_0 : K.out 215 0 = some [5] := rfl
@[go_sem] theorem live_215_1 : K.live 215 1 = none := rfl
@[go_sem] theorem out_215_1 : K.out 215 1 = none := rfl
@[go_sem] theorem live_216_0 : K.live 216 0 = some ([1, 2, 3, 7, 11, 12, 13], [(7, none, 6, true)], []) := rfl
@[go_sem] theorem out_216_0 : K.out 216 0 = some [1, 2, 3, 7] := rfl
@[go_sem] theorem live_216_1 : K.live 216 1 = none := rfl
@[go_sem] theorem out_216_1 : K.out 216 1 = none := rfl
@[go_sem] theorem dyn_216_9 : K.dyn 216 9 = [] := rfl
@[go_sem] theorem live_218_0 : K.live 218 0 = some ([3, 4, 5, 6, 7, 34, 35, 36], [], []) := rfl
@[go_sem] theorem out_218_0 : K.out 218 0 = some [3, 4, 5, 6, 7] := rfl
@[go_sem] theorem live_218_1 : K.live 218 1 = none := rfl
@[go_sem] theorem out_218_1 : K.out 218 1 = none := rfl
@[go_sem] theorem live_218_2 : K.live 218 2 = some ([3, 4, 5, 6, 7, 68, 69, 70], [], []) := rfl
@[go_sem] theorem out_218_2 : K.out 218 2 = some [4, 5, 6] := rfl
@[go_sem] theorem live_218_3 : K.live 218 3 = none := rfl
@[go_sem] theorem out_218_3 : K.out 218 3 = none := rfl
@[go_sem] theorem dyn_218_1 : K.dyn 218 1 = [] := rfl
@[go_sem] theorem dyn_218_6 : K.dyn 218 6 = [] := rfl
@[go_sem] theorem dyn_218_8 : K.dyn 218 8 = [(7,52)] := rfl
@[go_sem] theorem dyn_218_9 : K.dyn 218 9 = [(7,4)] := rfl
@[go_sem] theorem dyn_218_15 : K.dyn 218 15 = [(15,4)] := rfl
@[go_sem] theorem dyn_218_16 : K.dyn 218 16 = [(23,4)] := rfl
@[go_sem] theorem live_220_0 : K.live 220 0 = some ([0, 1, 7, 8], [], []) := rfl
@[go_sem] theorem out_220_0 : K.out 220 0 = some [] := rfl
@[go_sem] theorem live_220_1 : K.live 220 1 = none := rfl
@[go_sem] theorem out_220_1 : K.out 220 1 = none := rfl
@[go_sem] theorem live_224_0 : K.live 224 0 = some ([0, 1, 2, 3, 4, 10, 11], [], []) := rfl
@[go_sem] theorem out_224_0 : K.out 224 0 = some [] := rfl
@[go_sem] theorem live_224_1 : K.live 224 1 = none := rfl
@[go_sem] theorem out_224_1 : K.out 224 1 = none := rfl
@[go_sem] theorem dyn_224_17 : K.dyn 224 17 = [(13,94)] := rfl
@[go_sem] theorem live_227_0 : K.live 227 0 = some ([0, 1, 2, 3, 4, 10, 11], [], []) := rfl
@[go_sem] theorem out_227_0 : K.out 227 0 = some [] := rfl
@[go_sem] theorem live_227_1 : K.live 227 1 = none := rfl
@[go_sem] theorem out_227_1 : K.out 227 1 = none := rfl
@[go_sem] theorem dyn_227_17 : K.dyn 227 17 = [(13,94)] := rfl
@[go_sem] theorem live_228_0 : K.live 228 0 = some ([0, 1, 2, 3, 4, 10, 11], [], []) := rfl
@[go_sem] theorem out_228_0 : K.out 228 0 = some [] := rfl
@[go_sem] theorem live_228_1 : K.live 228 1 = none := rfl
@[go_sem] theorem out_228_1 : K.out 228 1 = none := rfl
@[go_sem] theorem dyn_228_17 : K.dyn 228 17 = [(13,94)] := rfl
@[go_sem] theorem dyn_229_1 : K.dyn 229 1 = [(8,10)] := rfl
@[go_sem] theorem live_230_0 : K.live 230 0 = none := rfl
@[go_sem] theorem out_230_0 : K.out 230 0 = none := rfl
@[go_sem] theorem dyn_230_5 : K.dyn 230 5 = [] := rfl
@[go_sem] theorem dyn_230_12 : K.dyn 230 12 = [(11,63)] := rfl
@[go_sem] theorem dyn_231_1 : K.dyn 231 1 = [(8,10)] := rfl
@[go_sem] theorem live_232_0 : K.live 232 0 = none := rfl
@[go_sem] theorem out_232_0 : K.out 232 0 = none := rfl
@[go_sem] theorem live_232_1 : K.live 232 1 = none := rfl
@[go_sem] theorem out_232_1 : K.out 232 1 = none := rfl
@[go_sem] theorem dyn_232_2 : K.dyn 232 2 = [] := rfl
@[go_sem] theorem dyn_232_5 : K.dyn 232 5 = [] := rfl
@[go_sem] theorem dyn_232_8 : K.dyn 232 8 = [] := rfl
@[go_sem] theorem dyn_232_12 : K.dyn 232 12 = [] := rfl
@[go_sem] theorem live_233_0 : K.live 233 0 = some ([1, 10, 11, 12], [], []) := rfl
@[go_sem] theorem out_233_0 : K.out 233 0 = some [1] := rfl
@[go_sem] theorem live_233_1 : K.live 233 1 = none := rfl
@[go_sem] theorem out_233_1 : K.out 233 1 = none := rfl
@[go_sem] theorem dyn_233_4 : K.dyn 233 4 = [(7,1), (7,18), (7,24), (7,26), (7,29)] := rfl
@[go_sem] theorem live_238_0 : K.live 238 0 = some ([1, 2, 5], [(5, none, 1, true)], []) := rfl
@[go_sem] theorem out_238_0 : K.out 238 0 = some [5] := rfl
@[go_sem] theorem live_238_1 : K.live 238 1 = none := rfl
@[go_sem] theorem out_238_1 : K.out 238 1 = none := rfl
@[go_sem] theorem dyn_238_3 : K.dyn 238 3 = [] := rfl
@[go_sem] theorem live_239_0 : K.live 239 0 = some ([3, 9, 10, 11], [(3, none, 7, false)], []) := rfl
@[go_sem] theorem out_239_0 : K.out 239 0 = some [3] := rfl
@[go_sem] theorem live_239_1 : K.live 239 1 = none := rfl
@[go_sem] theorem out_239_1 : K.out 239 1 = none := rfl
@[go_sem] theorem live_240_0 : K.live 240 0 = some ([1, 2, 8, 9], [], []) := rfl
@[go_sem] theorem out_240_0 : K.out 240 0 = some [] := rfl
@[go_sem] theorem live_240_1 : K.live 240 1 = none := rfl
@[go_sem] theorem out_240_1 : K.out 240 1 = none := rfl
@[go_sem] theorem dyn_243_1 : K.dyn 243 1 = [(8,16)] := rfl
@[go_sem] theorem live_244_0 : K.live 244 0 = some ([0, 1, 2, 3, 4, 10, 11], [], []) := rfl
@[go_sem] theorem out_244_0 : K.out 244 0 = some [] := rfl
@[go_sem] theorem live_244_1 : K.live 244 1 = none := rfl
@[go_sem] theorem out_244_1 : K.out 244 1 = none := rfl
@[go_sem] theorem dyn_244_17 : K.dyn 244 17 = [(13,94)] := rfl
@[go_sem] theorem live_245_0 : K.live 245 0 = some ([3, 8, 9, 10], [(3, none, 1, false)], []) := rfl
@[go_sem] theorem out_245_0 : K.out 245 0 = some [3] := rfl
@[go_sem] theorem live_245_1 : K.live 245 1 = none := rfl
@[go_sem] theorem out_245_1 : K.out 245 1 = none := rfl
@[go_sem] theorem live_245_2 : K.live 245 2 = none := rfl
@[go_sem] theorem out_245_2 : K.out 245 2 = none := rfl
@[go_sem] theorem live_245_3 : K.live 245 3 = some ([3, 6, 7, 8, 9, 10], [(3, none, 1, false)], []) := rfl
@[go_sem] theorem out_245_3 : K.out 245 3 = some [3, 8, 9, 10] := rfl
@[go_sem] theorem live_245_4 : K.live 245 4 = none := rfl
@[go_sem] theorem out_245_4 : K.out 245 4 = none := rfl
@[go_sem] theorem live_248_0 : K.live 248 0 = none := rfl
@[go_sem] theorem out_248_0 : K.out 248 0 = none := rfl
@[go_sem] theorem live_249_0 : K.live 249 0 = none := rfl
@[go_sem] theorem out_249_0 : K.out 249 0 = none := rfl
@[go_sem] theorem live_249_1 : K.live 249 1 = some ([1, 23, 24], [], []) := rfl
@[go_sem] theorem out_249_1 : K.out 249 1 = some [] := rfl
@[go_sem] theorem live_249_2 : K.live 249 2 = none := rfl
@[go_sem] theorem out_249_2 : K.out 249 2 = none := rfl
@[go_sem] theorem live_263_0 : K.live 263 0 = none := rfl
@[go_sem] theorem out_263_0 : K.out 263 0 = none := rfl
@[go_sem] theorem live_263_1 : K.live 263 1 = some ([0, 1, 5, 6, 7, 8, 9, 10], [], []) := rfl
@[go_sem] theorem out_263_1 : K.out 263 1 = some [] := rfl
@[go_sem] theorem live_263_2 : K.live 263 2 = none := rfl
@[go_sem] theorem out_263_2 : K.out 263 2 = none := rfl
@[go_sem] theorem dyn_274_2 : K.dyn 274 2 = [] := rfl
@[go_sem] theorem live_275_0 : K.live 275 0 = some ([0, 1, 7, 8], [], []) := rfl
@[go_sem] theorem out_275_0 : K.out 275 0 = some [] := rfl
@[go_sem] theorem live_275_1 : K.live 275 1 = none := rfl
@[go_sem] theorem out_275_1 : K.out 275 1 = none := rfl
@[go_sem] theorem dyn_277_4 : K.dyn 277 4 = [] := rfl
@[go_sem] theorem live_278_0 : K.live 278 0 = some ([0, 1, 7, 8], [], []) := rfl
@[go_sem] theorem out_278_0 : K.out 278 0 = some [] := rfl
@[go_sem] theorem live_278_1 : K.live 278 1 = none := rfl
@[go_sem] theorem out_278_1 : K.out 278 1 = none := rfl
@[go_sem] theorem live_279_0 : K.live 279 0 = some ([0, 1, 7, 8], [], []) := rfl
@[go_sem] theorem out_279_0 : K.out 279 0 = some [] := rfl
@[go_sem] theorem live_279_1 : K.live 279 1 = none := rfl
@[go_sem] theorem out_279_1 : K.out 279 1 = none := rfl
@[go_sem] theorem live_281_0 : K.live 281 0 = some ([0, 1, 7, 8], [], []) := rfl
@[go_sem] theorem out_281_0 : K.out 281 0 = some [] := rfl
@[go_sem] theorem live_281_1 : K.live 281 1 = none := rfl
@[go_sem] theorem out_281_1 : K.out 281 1 = none := rfl
@[go_sem] theorem live_283_0 : K.live 283 0 = some ([2, 3, 6, 16, 17, 18], [(6, none, 1, true)], []) := rfl
@[go_sem] theorem out_283_0 : K.out 283 0 = some [2, 3, 6] := rfl
@[go_sem] theorem live_283_1 : K.live 283 1 = none := rfl
@[go_sem] theorem out_283_1 : K.out 283 1 = none := rfl
@[go_sem] theorem live_283_2 : K.live 283 2 = none := rfl
@[go_sem] theorem out_283_2 : K.out 283 2 = none := rfl
@[go_sem] theorem live_284_0 : K.live 284 0 = some ([1, 2, 3, 4, 5, 14, 15, 16], [], []) := rfl
@[go_sem] theorem out_284_0 : K.out 284 0 = some [] := rfl
@[go_sem] theorem live_284_1 : K.live 284 1 = none := rfl
@[go_sem] theorem out_284_1 : K.out 284 1 = none := rfl
@[go_sem] theorem live_284_2 : K.live 284 2 = some ([1, 2, 3, 4, 5, 9, 11, 14, 15, 16, 21, 22, 23], [(11, none, 1, false)], []) := rfl
@[go_sem] theorem out_284_2 : K.out 284 2 = some [1, 2, 3, 4, 5, 9, 11, 14, 15, 16] := rfl
@[go_sem] theorem live_284_3 : K.live 284 3 = none := rfl
@[go_sem] theorem out_284_3 : K.out 284 3 = none := rfl
@[go_sem] theorem dyn_284_11 : K.dyn 284 11 = [(23,4)] := rfl
@[go_sem] theorem live_285_0 : K.live 285 0 = some ([0, 1, 2, 3, 8], [], []) := rfl
@[go_sem] theorem out_285_0 : K.out 285 0 = some [] := rfl
@[go_sem] theorem live_285_1 : K.live 285 1 = none := rfl
@[go_sem] theorem out_285_1 : K.out 285 1 = none := rfl
@[go_sem] theorem live_285_2 : K.live 285 2 = some ([0, 1, 2, 3, 8, 9], [], []) := rfl
@[go_sem] theorem out_285_2 : K.out 285 2 = some [0, 1, 2, 3, 8] := rfl
@[go_sem] theorem live_285_3 : K.live 285 3 = none := rfl
@[go_sem] theorem out_285_3 : K.out 285 3 = none := rfl
@[go_sem] theorem dyn_285_4 : K.dyn 285 4 = [(14,32)] := rfl
@[go_sem] theorem dyn_285_6 : K.dyn 285 6 = [] := rfl
@[go_sem] theorem live_286_0 : K.live 286 0 = some ([0, 3, 8, 9, 10, 11], [], []) := rfl
@[go_sem] theorem out_286_0 : K.out 286 0 = some [0, 3, 8, 9, 10] := rfl
@[go_sem] theorem live_286_1 : K.live 286 1 = none := rfl
@[go_sem] theorem out_286_1 : K.out 286 1 = none := rfl
@[go_sem] theorem live_286_2 : K.live 286 2 = some ([0, 3, 8, 9, 12], [], []) := rfl
@[go_sem] theorem out_286_2 : K.out 286 2 = some [] := rfl
@[go_sem] theorem live_286_3 : K.live 286 3 = none := rfl
@[go_sem] theorem out_286_3 : K.out 286 3 = none := rfl
@[go_sem] theorem dyn_286_10 : K.dyn 286 10 = [] := rfl
@[go_sem] theorem live_287_0 : K.live 287 0 = some ([0, 1, 8, 9, 10, 11], [], []) := rfl
@[go_sem] theorem out_287_0 : K.out 287 0 = some [] := rfl
@[go_sem] theorem live_287_1 : K.live 287 1 = none := rfl
@[go_sem] theorem out_287_1 : K.out 287 1 = none := rfl
@[go_sem] theorem dyn_287_10 : K.dyn 287 10 = [] := rfl
@[go_sem] theorem live_288_0 : K.live 288 0 = none := rfl
@[go_sem] theorem out_288_0 : K.out 288 0 = none := rfl
@[go_sem] theorem live_289_0 : K.live 289 0 = some ([0, 8, 9], [], []) := rfl
@[go_sem] theorem out_289_0 : K.out 289 0 = some [] := rfl
@[go_sem] theorem live_289_1 : K.live 289 1 = none := rfl
@[go_sem] theorem out_289_1 : K.out 289 1 = none := rfl
@[go_sem] theorem dyn_289_3 : K.dyn 289 3 = [] := rfl
@[go_sem] theorem live_290_0 : K.live 290 0 = some ([0, 1, 2, 3, 9, 10], [], []) := rfl
@[go_sem] theorem out_290_0 : K.out 290 0 = some [] := rfl
@[go_sem] theorem live_290_1 : K.live 290 1 = none := rfl
@[go_sem] theorem out_290_1 : K.out 290 1 = none := rfl
@[go_sem] theorem live_290_2 : K.live 290 2 = some ([0, 1, 2, 3, 9, 10], [], []) := rfl
@[go_sem] theorem out_290_2 : K.out 290 2 = some [0, 1, 2, 3, 9, 10] := rfl
@[go_sem] theorem live_290_3 : K.live 290 3 = none := rfl
@[go_sem] theorem out_290_3 : K.out 290 3 = none := rfl
@[go_sem] theorem live_290_4 : K.live 290 4 = some ([0, 1, 2, 3, 9, 10, 11], [], []) := rfl
@[go_sem] theorem out_290_4 : K.out 290 4 = some [0, 1, 2, 3, 9, 10] := rfl
@[go_sem] theorem live_290_5 : K.live 290 5 = none := rfl
@[go_sem] theorem out_290_5 : K.out 290 5 = none := rfl
@[go_sem] theorem live_290_6 : K.live 290 6 = some ([0, 1, 2, 3, 9, 10, 12], [], []) := rfl
@[go_sem] theorem out_290_6 : K.out 290 6 = some [0, 1, 2, 3, 9, 10] := rfl
@[go_sem] theorem live_290_7 : K.live 290 7 = none := rfl
@[go_sem] theorem out_290_7 : K.out 290 7 = none := rfl
@[go_sem] theorem dyn_290_5 : K.dyn 290 5 = [(14,33)] := rfl
@[go_sem] theorem dyn_290_11 : K.dyn 290 11 = [] := rfl
@[go_sem] theorem dyn_290_16 : K.dyn 290 16 = [(10,82)] := rfl
@[go_sem] theorem dyn_290_17 : K.dyn 290 17 = [] := rfl
@[go_sem] theorem dyn_290_22 : K.dyn 290 22 = [(10,122)] := rfl
@[go_sem] theorem dyn_290_23 : K.dyn 290 23 = [] := rfl
@[go_sem] theorem live_291_0 : K.live 291 0 = some ([0, 1, 4, 11, 12], [], []) := rfl
@[go_sem] theorem out_291_0 : K.out 291 0 = some [11] := rfl
@[go_sem] theorem live_291_1 : K.live 291 1 = none := rfl
@[go_sem] theorem out_291_1 : K.out 291 1 = none := rfl
@[go_sem] theorem live_291_2 : K.live 291 2 = some ([0, 1, 4, 11, 12], [], []) := rfl
@[go_sem] theorem out_291_2 : K.out 291 2 = some [0, 1, 4, 11, 12] := rfl
@[go_sem] theorem live_291_3 : K.live 291 3 = none := rfl
@[go_sem] theorem out_291_3 : K.out 291 3 = none := rfl
@[go_sem] theorem live_291_4 : K.live 291 4 = some ([0, 1, 4, 11, 12], [], []) := rfl
@[go_sem] theorem out_291_4 : K.out 291 4 = some [0, 1, 4, 11, 12] := rfl
@[go_sem] theorem live_291_5 : K.live 291 5 = none := rfl
@[go_sem] theorem out_291_5 : K.out 291 5 = none := rfl
@[go_sem] theorem dyn_291_1 : K.dyn 291 1 = [] := rfl
@[go_sem] theorem dyn_291_3 : K.dyn 291 3 = [(13,44)] := rfl
@[go_sem] theorem dyn_291_5 : K.dyn 291 5 = [(13,63)] := rfl
@[go_sem] theorem dyn_291_8 : K.dyn 291 8 = [] := rfl
@[go_sem] theorem live_292_0 : K.live 292 0 = some ([0, 1, 4, 12, 13], [], []) := rfl
@[go_sem] theorem out_292_0 : K.out 292 0 = some [0, 1, 4, 12, 13] := rfl
@[go_sem] theorem live_292_1 : K.live 292 1 = none := rfl
@[go_sem] theorem out_292_1 : K.out 292 1 = none := rfl
@[go_sem] theorem live_292_2 : K.live 292 2 = some ([0, 1, 4, 12, 13], [], []) := rfl
@[go_sem] theorem out_292_2 : K.out 292 2 = some [0, 1, 4, 12, 13] := rfl
@[go_sem] theorem live_292_3 : K.live 292 3 = none := rfl
@[go_sem] theorem out_292_3 : K.out 292 3 = none := rfl
@[go_sem] theorem live_292_4 : K.live 292 4 = some ([0, 1, 4, 12, 13], [], []) := rfl
@[go_sem] theorem out_292_4 : K.out 292 4 = some [0, 1, 13] := rfl
@[go_sem] theorem live_292_5 : K.live 292 5 = none := rfl
@[go_sem] theorem out_292_5 : K.out 292 5 = none := rfl
@[go_sem] theorem live_292_6 : K.live 292 6 = some ([0, 1, 4, 12, 13], [], []) := rfl
@[go_sem] theorem out_292_6 : K.out 292 6 = some [0, 1, 4, 12, 13] := rfl
@[go_sem] theorem live_292_7 : K.live 292 7 = none := rfl
@[go_sem] theorem out_292_7 : K.out 292 7 = none := rfl
@[go_sem] theorem live_292_8 : K.live 292 8 = some ([0, 1, 4, 12, 13], [], []) := rfl
@[go_sem] theorem out_292_8 : K.out 292 8 = some [0, 1, 4, 12, 13] := rfl
@[go_sem] theorem live_292_9 : K.live 292 9 = none := rfl
@[go_sem] theorem out_292_9 : K.out 292 9 = none := rfl
@[go_sem] theorem dyn_292_1 : K.dyn 292 1 = [] := rfl
@[go_sem] theorem dyn_292_3 : K.dyn 292 3 = [(13,45)] := rfl
@[go_sem] theorem dyn_292_5 : K.dyn 292 5 = [(13,63)] := rfl
@[go_sem] theorem dyn_292_8 : K.dyn 292 8 = [] := rfl
@[go_sem] theorem dyn_292_10 : K.dyn 292 10 = [] := rfl
@[go_sem] theorem dyn_292_13 : K.dyn 292 13 = [(13,118)] := rfl
@[go_sem] theorem dyn_292_15 : K.dyn 292 15 = [(13,136)] := rfl
@[go_sem] theorem dyn_292_18 : K.dyn 292 18 = [] := rfl
@[go_sem] theorem dyn_292_21 : K.dyn 292 21 = [] := rfl
@[go_sem] theorem live_295_0 : K.live 295 0 = some ([0, 1, 2, 3, 8], [], []) := rfl
@[go_sem] theorem out_295_0 : K.out 295 0 = some [] := rfl
@[go_sem] theorem live_295_1 : K.live 295 1 = none := rfl
@[go_sem] theorem out_295_1 : K.out 295 1 = none := rfl
@[go_sem] theorem live_295_2 : K.live 295 2 = some ([0, 1, 2, 3, 8, 9], [], []) := rfl
@[go_sem] theorem out_295_2 : K.out 295 2 = some [0, 1, 2, 3, 8] := rfl
@[go_sem] theorem live_295_3 : K.live 295 3 = none := rfl
@[go_sem] theorem out_295_3 : K.out 295 3 = none := rfl
@[go_sem] theorem dyn_295_4 : K.dyn 295 4 = [(14,32)] := rfl
@[go_sem] theorem dyn_295_6 : K.dyn 295 6 = [] := rfl
@[go_sem] theorem live_296_0 : K.live 296 0 = some ([0, 3, 8, 9, 10, 11], [], []) := rfl
@[go_sem] theorem out_296_0 : K.out 296 0 = some [0, 3, 8, 9, 10] := rfl
@[go_sem] theorem live_296_1 : K.live 296 1 = none := rfl
@[go_sem] theorem out_296_1 : K.out 296 1 = none := rfl
@[go_sem] theorem live_296_2 : K.live 296 2 = some ([0, 3, 8, 9, 12], [], []) := rfl
@[go_sem] theorem out_296_2 : K.out 296 2 = some [] := rfl
@[go_sem] theorem live_296_3 : K.live 296 3 = none := rfl
@[go_sem] theorem out_296_3 : K.out 296 3 = none := rfl
@[go_sem] theorem dyn_296_10 : K.dyn 296 10 = [] := rfl
@[go_sem] theorem live_297_0 : K.live 297 0 = some ([0, 1, 8, 9, 10, 11], [], []) := rfl
@[go_sem] theorem out_297_0 : K.out 297 0 = some [] := rfl
@[go_sem] theorem live_297_1 : K.live 297 1 = none := rfl
@[go_sem] theorem out_297_1 : K.out 297 1 = none := rfl
@[go_sem] theorem dyn_297_10 : K.dyn 297 10 = [] := rfl
@[go_sem] theorem live_298_0 : K.live 298 0 = none := rfl
@[go_sem] theorem out_298_0 : K.out 298 0 = none := rfl
@[go_sem] theorem live_299_0 : K.live 299 0 = some ([0, 8, 9], [], []) := rfl
@[go_sem] theorem out_299_0 : K.out 299 0 = some [] := rfl
@[go_sem] theorem live_299_1 : K.live 299 1 = none := rfl
@[go_sem] theorem out_299_1 : K.out 299 1 = none := rfl
@[go_sem] theorem dyn_299_3 : K.dyn 299 3 = [] := rfl
@[go_sem] theorem live_300_0 : K.live 300 0 = some ([0, 1, 2, 3, 9, 10], [], []) := rfl
@[go_sem] theorem out_300_0 : K.out 300 0 = some [] := rfl
@[go_sem] theorem live_300_1 : K.live 300 1 = none := rfl
@[go_sem] theorem out_300_1 : K.out 300 1 = none := rfl
@[go_sem] theorem live_300_2 : K.live 300 2 = some ([0, 1, 2, 3, 9, 10], [], []) := rfl
@[go_sem] theorem out_300_2 : K.out 300 2 = some [0, 1, 2, 3, 9, 10] := rfl
@[go_sem] theorem live_300_3 : K.live 300 3 = none := rfl
@[go_sem] theorem out_300_3 : K.out 300 3 = none := rfl
@[go_sem] theorem live_300_4 : K.live 300 4 = some ([0, 1, 2, 3, 9, 10, 11], [], []) := rfl
@[go_sem] theorem out_300_4 : K.out 300 4 = some [0, 1, 2, 3, 9, 10] := rfl
@[go_sem] theorem live_300_5 : K.live 300 5 = none := rfl
@[go_sem] theorem out_300_5 : K.out 300 5 = none := rfl
@[go_sem] theorem live_300_6 : K.live 300 6 = some ([0, 1, 2, 3, 9, 10, 12], [], []) := rfl
@[go_sem] theorem out_300_6 : K.out 300 6 = some [0, 1, 2, 3, 9, 10] := rfl
@[go_sem] theorem live_300_7 : K.live 300 7 = none := rfl
@[go_sem] theorem out_300_7 : K.out 300 7 = none := rfl
@[go_sem] theorem dyn_300_5 : K.dyn 300 5 = [(14,33)] := rfl
@[go_sem] theorem dyn_300_11 : K.dyn 300 11 = [] := rfl
@[go_sem] theorem dyn_300_16 : K.dyn 300 16 = [(10,82)] := rfl
@[go_sem] theorem dyn_300_17 : K.dyn 300 17 = [] := rfl
@[go_sem] theorem dyn_300_22 : K.dyn 300 22 = [(10,122)] := rfl
@[go_sem] theorem dyn_300_23 : K.dyn 300 23 = [] := rfl
@[go_sem] theorem live_301_0 : K.live 301 0 = some ([0, 1, 4, 11, 12], [], []) := rfl
@[go_sem] theorem out_301_0 : K.out 301 0 = some [11] := rfl
@[go_sem] theorem live_301_1 : K.live 301 1 = none := rfl
@[go_sem] theorem out_301_1 : K.out 301 1 = none := rfl
@[go_sem] theorem live_301_2 : K.live 301 2 = some ([0, 1, 4, 11, 12], [], []) := rfl
@[go_sem] theorem out_301_2 : K.out 301 2 = some [0, 1, 4, 11, 12] := rfl
@[go_sem] theorem live_301_3 : K.live 301 3 = none := rfl
@[go_sem] theorem out_301_3 : K.out 301 3 = none := rfl
@[go_sem] theorem live_301_4 : K.live 301 4 = some ([0, 1, 4, 11, 12], [], []) := rfl
@[go_sem] theorem out_301_4 : K.out 301 4 = some [0, 1, 4, 11, 12] := rfl
@[go_sem] theorem live_301_5 : K.live 301 5 = none := rfl
@[go_sem] theorem out_301_5 : K.out 301 5 = none := rfl
@[go_sem] theorem dyn_301_1 : K.dyn 301 1 = [] := rfl
@[go_sem] theorem dyn_301_3 : K.dyn 301 3 = [(13,44)] := rfl
@[go_sem] theorem dyn_301_5 : K.dyn 301 5 = [(13,63)] := rfl
@[go_sem] theorem dyn_301_8 : K.dyn 301 8 = [] := rfl
@[go_sem] theorem live_302_0 : K.live 302 0 = some ([0, 1, 4, 12, 13], [], []) := rfl
@[go_sem] theorem out_302_0 : K.out 302 0 = some [0, 1, 4, 12, 13] := rfl
@[go_sem] theorem live_302_1 : K.live 302 1 = none := rfl
@[go_sem] theorem out_302_1 : K.out 302 1 = none := rfl
@[go_sem] theorem live_302_2 : K.live 302 2 = some ([0, 1, 4, 12, 13], [], []) := rfl
@[go_sem] theorem out_302_2 : K.out 302 2 = some [0, 1, 4, 12, 13] := rfl
@[go_sem] theorem live_302_3 : K.live 302 3 = none := rfl
@[go_sem] theorem out_302_3 : K.out 302 3 = none := rfl
@[go_sem] theorem live_302_4 : K.live 302 4 = some ([0, 1, 4, 12, 13], [], []) := rfl
@[go_sem] theorem out_302_4 : K.out 302 4 = some [0, 1, 13] := rfl
@[go_sem] theorem live_302_5 : K.live 302 5 = none := rfl
@[go_sem] theorem out_302_5 : K.out 302 5 = none := rfl
@[go_sem] theorem live_302_6 : K.live 302 6 = some ([0, 1, 4, 12, 13], [], []) := rfl
@[go_sem] theorem out_302_6 : K.out 302 6 = some [0, 1, 4, 12, 13] := rfl
@[go_sem] theorem live_302_7 : K.live 302 7 = none := rfl
@[go_sem] theorem out_302_7 : K.out 302 7 = none := rfl
@[go_sem] theorem live_302_8 : K.live 302 8 = some ([0, 1, 4, 12, 13], [], []) := rfl
@[go_sem] theorem out_302_8 : K.out 302 8 = some [0, 1, 4, 12, 13] := rfl
@[go_sem] theorem live_302_9 : K.live 302 9 = none := rfl
@[go_sem] theorem out_302_9 : K.out 302 9 = none := rfl
@[go_sem] theorem dyn_302_1 : K.dyn 302 1 = [] := rfl
@[go_sem] theorem dyn_302_3 : K.dyn 302 3 = [(13,45)] := rfl
@[go_sem] theorem dyn_302_5 : K.dyn 302 5 = [(13,63)] := rfl
@[go_sem] theorem dyn_302_8 : K.dyn 302 8 = [] := rfl
@[go_sem] theorem dyn_302_10 : K.dyn 302 10 = [] := rfl
@[go_sem] theorem dyn_302_13 : K.dyn 302 13 = [(13,118)] := rfl
@[go_sem] theorem dyn_302_15 : K.dyn 302 15 = [(13,136)] := rfl
@[go_sem] theorem dyn_302_18 : K.dyn 302 18 = [] := rfl
@[go_sem] theorem dyn_302_21 : K.dyn 302 21 = [] := rfl
@[go_sem] theorem live_303_0 : K.live 303 0 = some ([0, 1, 2, 3, 8], [], []) := rfl
@[go_sem] theorem out_303_0 : K.out 303 0 = some [] := rfl
@[go_sem] theorem live_303_1 : K.live 303 1 = none := rfl
@[go_sem] theorem out_303_1 : K.out 303 1 = none := rfl
@[go_sem] theorem live_303_2 : K.live 303 2 = some ([0, 1, 2, 3, 8, 9], [], []) := rfl
@[go_sem] theorem out_303_2 : K.out 303 2 = some [0, 1, 2, 3, 8] := rfl
@[go_sem] theorem live_303_3 : K.live 303 3 = none := rfl
@[go_sem] theorem out_303_3 : K.out 303 3 = none := rfl
@[go_sem] theorem dyn_303_4 : K.dyn 303 4 = [(14,32)] := rfl
@[go_sem] theorem dyn_303_6 : K.dyn 303 6 = [] := rfl
@[go_sem] theorem live_304_0 : K.live 304 0 = some ([0, 3, 8, 9, 10, 11], [], []) := rfl
@[go_sem] theorem out_304_0 : K.out 304 0 = some [0, 3, 8, 9, 10] := rfl
@[go_sem] theorem live_304_1 : K.live 304 1 = none := rfl
@[go_sem] theorem out_304_1 : K.out 304 1 = none := rfl
@[go_sem] theorem live_304_2 : K.live 304 2 = some ([0, 3, 8, 9, 12], [], []) := rfl
@[go_sem] theorem out_304_2 : K.out 304 2 = some [] := rfl
@[go_sem] theorem live_304_3 : K.live 304 3 = none := rfl
@[go_sem] theorem out_304_3 : K.out 304 3 = none := rfl
@[go_sem] theorem dyn_304_10 : K.dyn 304 10 = [] := rfl
@[go_sem] theorem live_305_0 : K.live 305 0 = some ([0, 1, 8, 9, 10, 11], [], []) := rfl
@[go_sem] theorem out_305_0 : K.out 305 0 = some [] := rfl
@[go_sem] theorem live_305_1 : K.live 305 1 = none := rfl
@[go_sem] theorem out_305_1 : K.out 305 1 = none := rfl
@[go_sem] theorem dyn_305_10 : K.dyn 305 10 = [] := rfl
@[go_sem] theorem live_306_0 : K.live 306 0 = none := rfl
@[go_sem] theorem out_306_0 : K.out 306 0 = none := rfl
@[go_sem] theorem live_307_0 : K.live 307 0 = some ([0, 8, 9], [], []) := rfl
@[go_sem] theorem out_307_0 : K.out 307 0 = some [] := rfl
@[go_sem] theorem live_307_1 : K.live 307 1 = none := rfl
@[go_sem] theorem out_307_1 : K.out 307 1 = none := rfl
@[go_sem] theorem dyn_307_3 : K.dyn 307 3 = [] := rfl
@[go_sem] theorem live_308_0 : K.live 308 0 = some ([0, 1, 2, 3, 9, 10], [], []) := rfl
@[go_sem] theorem out_308_0 : K.out 308 0 = some [] := rfl
@[go_sem] theorem live_308_1 : K.live 308 1 = none := rfl
@[go_sem] theorem out_308_1 : K.out 308 1 = none := rfl
@[go_sem] theorem live_308_2 : K.live 308 2 = some ([0, 1, 2, 3, 9, 10], [], []) := rfl
@[go_sem] theorem out_308_2 : K.out 308 2 = some [0, 1, 2, 3, 9, 10] := rfl
@[go_sem] theorem live_308_3 : K.live 308 3 = none := rfl
@[go_sem] theorem out_308_3 : K.out 308 3 = none := rfl
@[go_sem] theorem live_308_4 : K.live 308 4 = some ([0, 1, 2, 3, 9, 10, 11], [], []) := rfl
@[go_sem] theorem out_308_4 : K.out 308 4 = some [0, 1, 2, 3, 9, 10] := rfl
@[go_sem] theorem live_308_5 : K.live 308 5 = none := rfl
@[go_sem] theorem out_308_5 : K.out 308 5 = none := rfl
@[go_sem] theorem live_308_6 : K.live 308 6 = some ([0, 1, 2, 3, 9, 10, 12], [], []) := rfl
@[go_sem] theorem out_308_6 : K.out 308 6 = some [0, 1, 2, 3, 9, 10] := rfl
@[go_sem] theorem live_308_7 : K.live 308 7 = none := rfl
@[go_sem] theorem out_308_7 : K.out 308 7 = none := rfl
@[go_sem] theorem dyn_308_5 : K.dyn 308 5 = [(14,33)] := rfl
@[go_sem] theorem dyn_308_11 : K.dyn 308 11 = [] := rfl
@[go_sem] theorem dyn_308_16 : K.dyn 308 16 = [(10,82)] := rfl
@[go_sem] theorem dyn_308_17 : K.dyn 308 17 = [] := rfl
@[go_sem] theorem dyn_308_22 : K.dyn 308 22 = [(10,122)] := rfl
@[go_sem] theorem dyn_308_23 : K.dyn 308 23 = [] := rfl
@[go_sem] theorem live_309_0 : K.live 309 0 = some ([0, 1, 4, 11, 12], [], []) := rfl
@[go_sem] theorem out_309_0 : K.out 309 0 = some [11] := rfl
@[go_sem] theorem live_309_1 : K.live 309 1 = none := rfl
@[go_sem] theorem out_309_1 : K.out 309 1 = none := rfl
@[go_sem] theorem live_309_2 : K.live 309 2 = some ([0, 1, 4, 11, 12], [], []) := rfl
@[go_sem] theorem out_309_2 : K.out 309 2 = some [0, 1, 4, 11, 12] := rfl
@[go_sem] theorem live_309_3 : K.live 309 3 = none := rfl
@[go_sem] theorem out_309_3 : K.out 309 3 = none := rfl
@[go_sem] theorem live_309_4 : K.live 309 4 = some ([0, 1, 4, 11, 12], [], []) := rfl
@[go_sem] theorem out_309_4 : K.out 309 4 = some [0, 1, 4, 11, 12] := rfl
@[go_sem] theorem live_309_5 : K.live 309 5 = none := rfl
@[go_sem] theorem out_309_5 : K.out 309 5 = none := rfl
@[go_sem] theorem dyn_309_1 : K.dyn 309 1 = [] := rfl
@[go_sem] theorem dyn_309_3 : K.dyn 309 3 = [(13,44)] := rfl
@[go_sem] theorem dyn_309_5 : K.dyn 309 5 = [(13,63)] := rfl
@[go_sem] theorem dyn_309_8 : K.dyn 309 8 = [] := rfl
@[go_sem] theorem live_310_0 : K.live 310 0 = some ([0, 1, 4, 12, 13], [], []) := rfl
@[go_sem] theorem out_310_0 : K.out 310 0 = some [0, 1, 4, 12, 13] := rfl
@[go_sem] theorem live_310_1 : K.live 310 1 = none := rfl
@[go_sem] theorem out_310_1 : K.out 310 1 = none := rfl
@[go_sem] theorem live_310_2 : K.live 310 2 = some ([0, 1, 4, 12, 13], [], []) := rfl
@[go_sem] theorem out_310_2 : K.out 310 2 = some [0, 1, 4, 12, 13] := rfl
@[go_sem] theorem live_310_3 : K.live 310 3 = none := rfl
@[go_sem] theorem out_310_3 : K.out 310 3 = none := rfl
@[go_sem] theorem live_310_4 : K.live 310 4 = some ([0, 1, 4, 12, 13], [], []) := rfl
@[go_sem] theorem out_310_4 : K.out 310 4 = some [0, 1, 13] := rfl
@[go_sem] theorem live_310_5 : K.live 310 5 = none := rfl
@[go_sem] theorem out_310_5 : K.out 310 5 = none := rfl
@[go_sem] theorem live_310_6 : K.live 310 6 = some ([0, 1, 4, 12, 13], [], []) := rfl
@[go_sem] theorem out_310_6 : K.out 310 6 = some [0, 1, 4, 12, 13] := rfl
@[go_sem] theorem live_310_7 : K.live 310 7 = none := rfl
@[go_sem] theorem out_310_7 : K.out 310 7 = none := rfl
@[go_sem] theorem live_310_8 : K.live 310 8 = some ([0, 1, 4, 12, 13], [], []) := rfl
@[go_sem] theorem out_310_8 : K.out 310 8 = some [0, 1, 4, 12, 13] := rfl
@[go_sem] theorem live_310_9 : K.live 310 9 = none := rfl
@[go_sem] theorem out_310_9 : K.out 310 9 = none := rfl
@[go_sem] theorem dyn_310_1 : K.dyn 310 1 = [] := rfl
@[go_sem] theorem dyn_310_3 : K.dyn 310 3 = [(13,45)] := rfl
@[go_sem] theorem dyn_310_5 : K.dyn 310 5 = [(13,63)] := rfl
@[go_sem] theorem dyn_310_8 : K.dyn 310 8 = [] := rfl
@[go_sem] theorem dyn_310_10 : K.dyn 310 10 = [] := rfl
@[go_sem] theorem dyn_310_13 : K.dyn 310 13 = [(13,118)] := rfl
@[go_sem] theorem dyn_310_15 : K.dyn 310 15 = [(13,136)] := rfl
@[go_sem] theorem dyn_310_18 : K.dyn 310 18 = [] := rfl
@[go_sem] theorem dyn_310_21 : K.dyn 310 21 = [] := rfl
@[go_sem] theorem live_311_0 : K.live 311 0 = none := rfl
@[go_sem] theorem out_311_0 : K.out 311 0 = none := rfl
@[go_sem] theorem dyn_311_1 : K.dyn 311 1 = [] := rfl
@[go_sem] theorem dyn_311_8 : K.dyn 311 8 = [(3,65), (12,74), (22,84)] := rfl
@[go_sem] theorem dyn_311_14 : K.dyn 311 14 = [] := rfl
@[go_sem] theorem dyn_312_1 : K.dyn 312 1 = [(10,16)] := rfl
@[go_sem] theorem live_313_0 : K.live 313 0 = none := rfl
@[go_sem] theorem out_313_0 : K.out 313 0 = none := rfl
@[go_sem] theorem dyn_313_4 : K.dyn 313 4 = [] := rfl
@[go_sem] theorem live_314_0 : K.live 314 0 = none := rfl
@[go_sem] theorem out_314_0 : K.out 314 0 = none := rfl
@[go_sem] theorem dyn_315_1 : K.dyn 315 1 = [(3,12), (3,16), (3,18), (3,21), (3,23), (7,16), (7,18), (7,21), (7,23)] := rfl
@[go_sem] theorem dyn_316_4 : K.dyn 316 4 = [] := rfl
@[go_sem] theorem dyn_316_7 : K.dyn 316 7 = [] := rfl
@[go_sem] theorem dyn_318_1 : K.dyn 318 1 = [] := rfl
@[go_sem] theorem dyn_319_1 : K.dyn 319 1 = [] := rfl
@[go_sem] theorem dyn_321_1 : K.dyn 321 1 = [] := rfl
@[go_sem] theorem dyn_321_2 : K.dyn 321 2 = [(16,37)] := rfl
@[go_sem] theorem dyn_322_3 : K.dyn 322 3 = [(6,24)] := rfl
@[go_sem] theorem dyn_323_2 : K.dyn 323 2 = [(7,20), (24,37)] := rfl
@[go_sem] theorem dyn_325_1 : K.dyn 325 1 = [(8,13)] := rfl
@[go_sem] theorem live_327_0 : K.live 327 0 = some ([0, 1, 7, 8], [], []) := rfl
@[go_sem] theorem out_327_0 : K.out 327 0 = some [] := rfl
@[go_sem] theorem live_327_1 : K.live 327 1 = none := rfl
@[go_sem] theorem out_327_1 : K.out 327 1 = none := rfl
@[go_sem] theorem live_328_0 : K.live 328 0 = some ([0, 2, 3], [], []) := rfl
@[go_sem] theorem out_328_0 : K.out 328 0 = some [] := rfl
@[go_sem] theorem live_328_1 : K.live 328 1 = none := rfl
@[go_sem] theorem out_328_1 : K.out 328 1 = none := rfl
@[go_sem] theorem dyn_328_3 : K.dyn 328 3 = [] := rfl
@[go_sem] theorem live_329_0 : K.live 329 0 = some ([0, 1, 7, 8], [], []) := rfl
@[go_sem] theorem out_329_0 : K.out 329 0 = some [] := rfl
@[go_sem] theorem live_329_1 : K.live 329 1 = none := rfl
@[go_sem] theorem out_329_1 : K.out 329 1 = none := rfl
@[go_sem] theorem live_332_0 : K.live 332 0 = some ([0, 1, 2, 3, 8], [], []) := rfl
@[go_sem] theorem out_332_0 : K.out 332 0 = some [] := rfl
@[go_sem] theorem live_332_1 : K.live 332 1 = none := rfl
@[go_sem] theorem out_332_1 : K.out 332 1 = none := rfl
@[go_sem] theorem live_332_2 : K.live 332 2 = some ([0, 1, 2, 3, 8, 9], [], []) := rfl
@[go_sem] theorem out_332_2 : K.out 332 2 = some [0, 1, 2, 3, 8] := rfl
@[go_sem] theorem live_332_3 : K.live 332 3 = none := rfl
@[go_sem] theorem out_332_3 : K.out 332 3 = none := rfl
@[go_sem] theorem dyn_332_4 : K.dyn 332 4 = [(14,32)] := rfl
@[go_sem] theorem dyn_332_6 : K.dyn 332 6 = [] := rfl
@[go_sem] theorem live_333_0 : K.live 333 0 = some ([0, 3, 8, 9, 10, 11], [], []) := rfl
@[go_sem] theorem out_333_0 : K.out 333 0 = some [0, 3, 8, 9, 10] := rfl
@[go_sem] theorem live_333_1 : K.live 333 1 = none := rfl
@[go_sem] theorem out_333_1 : K.out 333 1 = none := rfl
@[go_sem] theorem live_333_2 : K.live 333 2 = some ([0, 3, 8, 9, 12], [], []) := rfl
@[go_sem] theorem out_333_2 : K.out 333 2 = some [] := rfl
@[go_sem] theorem live_333_3 : K.live 333 3 = none := rfl
@[go_sem] theorem out_333_3 : K.out 333 3 = none := rfl
@[go_sem] theorem dyn_333_10 : K.dyn 333 10 = [] := rfl
@[go_sem] theorem live_334_0 : K.live 334 0 = some ([0, 1, 8, 9, 10, 11], [], []) := rfl
@[go_sem] theorem out_334_0 : K.out 334 0 = some [] := rfl
@[go_sem] theorem live_334_1 : K.live 334 1 = none := rfl
@[go_sem] theorem out_334_1 : K.out 334 1 = none := rfl
@[go_sem] theorem dyn_334_10 : K.dyn 334 10 = [] := rfl
@[go_sem] theorem live_335_0 : K.live 335 0 = none := rfl
@[go_sem] theorem out_335_0 : K.out 335 0 = none := rfl
@[go_sem] theorem live_336_0 : K.live 336 0 = some ([0, 8, 9], [], []) := rfl
@[go_sem] theorem out_336_0 : K.out 336 0 = some [] := rfl
@[go_sem] theorem live_336_1 : K.live 336 1 = none := rfl
@[go_sem] theorem out_336_1 : K.out 336 1 = none := rfl
@[go_sem] theorem dyn_336_3 : K.dyn 336 3 = [] := rfl
@[go_sem] theorem live_337_0 : K.live 337 0 = some ([0, 1, 2, 3, 9, 10], [], []) := rfl
@[go_sem] theorem out_337_0 : K.out 337 0 = some [] := rfl
@[go_sem] theorem live_337_1 : K.live 337 1 = none := rfl
@[go_sem] theorem out_337_1 : K.out 337 1 = none := rfl
@[go_sem] theorem live_337_2 : K.live 337 2 = some ([0, 1, 2, 3, 9, 10], [], []) := rfl
@[go_sem] theorem out_337_2 : K.out 337 2 = some [0, 1, 2, 3, 9, 10] := rfl
@[go_sem] theorem live_337_3 : K.live 337 3 = none := rfl
@[go_sem] theorem out_337_3 : K.out 337 3 = none := rfl
@[go_sem] theorem live_337_4 : K.live 337 4 = some ([0, 1, 2, 3, 9, 10, 11], [], []) := rfl
@[go_sem] theorem out_337_4 : K.out 337 4 = some [0, 1, 2, 3, 9, 10] := rfl
@[go_sem] theorem live_337_5 : K.live 337 5 = none := rfl
@[go_sem] theorem out_337_5 : K.out 337 5 = none := rfl
@[go_sem] theorem live_337_6 : K.live 337 6 = some ([0, 1, 2, 3, 9, 10, 12], [], []) := rfl
@[go_sem] theorem out_337_6 : K.out 337 6 = some [0, 1, 2, 3, 9, 10] := rfl
@[go_sem] theorem live_337_7 : K.live 337 7 = none := rfl
@[go_sem] theorem out_337_7 : K.out 337 7 = none := rfl
@[go_sem] theorem dyn_337_5 : K.dyn 337 5 = [(14,33)] := rfl
@[go_sem] theorem dyn_337_11 : K.dyn 337 11 = [] := rfl
@[go_sem] theorem dyn_337_16 : K.dyn 337 16 = [(10,82)] := rfl
@[go_sem] theorem dyn_337_17 : K.dyn 337 17 = [] := rfl
@[go_sem] theorem dyn_337_22 : K.dyn 337 22 = [(10,122)] := rfl
@[go_sem] theorem dyn_337_23 : K.dyn 337 23 = [] := rfl
@[go_sem] theorem live_338_0 : K.live 338 0 = some ([0, 1, 4, 11, 12], [], []) := rfl
@[go_sem] theorem out_338_0 : K.out 338 0 = some [11] := rfl
@[go_sem] theorem live_338_1 : K.live 338 1 = none := rfl
@[go_sem] theorem out_338_1 : K.out 338 1 = none := rfl
@[go_sem] theorem live_338_2 : K.live 338 2 = some ([0, 1, 4, 11, 12], [], []) := rfl
@[go_sem] theorem out_338_2 : K.out 338 2 = some [0, 1, 4, 11, 12] := rfl
@[go_sem] theorem live_338_3 : K.live 338 3 = none := rfl
@[go_sem] theorem out_338_3 : K.out 338 3 = none := rfl
@[go_sem] theorem live_338_4 : K.live 338 4 = some ([0, 1, 4, 11, 12], [], []) := rfl
@[go_sem] theorem out_338_4 : K.out 338 4 = some [0, 1, 4, 11, 12] := rfl
@[go_sem] theorem live_338_5 : K.live 338 5 = none := rfl
@[go_sem] theorem out_338_5 : K.out 338 5 = none := rfl
@[go_sem] theorem dyn_338_1 : K.dyn 338 1 = [] := rfl
@[go_sem] theorem dyn_338_3 : K.dyn 338 3 = [(13,44)] := rfl
@[go_sem] theorem dyn_338_5 : K.dyn 338 5 = [(13,63)] := rfl
@[go_sem] theorem dyn_338_8 : K.dyn 338 8 = [] := rfl
@[go_sem] theorem live_339_0 : K.live 339 0 = some ([0, 1, 4, 12, 13], [], []) := rfl
@[go_sem] theorem out_339_0 : K.out 339 0 = some [0, 1, 4, 12, 13] := rfl
@[go_sem] theorem live_339_1 : K.live 339 1 = none := rfl
@[go_sem] theorem out_339_1 : K.out 339 1 = none := rfl
@[go_sem] theorem live_339_2 : K.live 339 2 = some ([0, 1, 4, 12, 13], [], []) := rfl
@[go_sem] theorem out_339_2 : K.out 339 2 = some [0, 1, 4, 12, 13] := rfl
@[go_sem] theorem live_339_3 : K.live 339 3 = none := rfl
@[go_sem] theorem out_339_3 : K.out 339 3 = none := rfl
@[go_sem] theorem live_339_4 : K.live 339 4 = some ([0, 1, 4, 12, 13], [], []) := rfl
@[go_sem] theorem out_339_4 : K.out 339 4 = some [0, 1, 13] := rfl
@[go_sem] theorem live_339_5 : K.live 339 5 = none := rfl
@[go_sem] theorem out_339_5 : K.out 339 5 = none := rfl
@[go_sem] theorem live_339_6 : K.live 339 6 = some ([0, 1, 4, 12, 13], [], []) := rfl
@[go_sem] theorem out_339_6 : K.out 339 6 = some [0, 1, 4, 12, 13] := rfl
@[go_sem] theorem live_339_7 : K.live 339 7 = none := rfl
@[go_sem] theorem out_339_7 : K.out 339 7 = none := rfl
@[go_sem] theorem live_339_8 : K.live 339 8 = some ([0, 1, 4, 12, 13], [], []) := rfl
@[go_sem] theorem out_339_8 : K.out 339 8 = some [0, 1, 4, 12, 13] := rfl
@[go_sem] theorem live_339_9 : K.live 339 9 = none := rfl
@[go_sem] theorem out_339_9 : K.out 339 9 = none := rfl
@[go_sem] theorem dyn_339_1 : K.dyn 339 1 = [] := rfl
@[go_sem] theorem dyn_339_3 : K.dyn 339 3 = [(13,45)] := rfl
@[go_sem] theorem dyn_339_5 : K.dyn 339 5 = [(13,63)] := rfl
@[go_sem] theorem dyn_339_8 : K.dyn 339 8 = [] := rfl
@[go_sem] theorem dyn_339_10 : K.dyn 339 10 = [] := rfl
@[go_sem] theorem dyn_339_13 : K.dyn 339 13 = [(13,118)] := rfl
@[go_sem] theorem dyn_339_15 : K.dyn 339 15 = [(13,136)] := rfl
@[go_sem] theorem dyn_339_18 : K.dyn 339 18 = [] := rfl
@[go_sem] theorem dyn_339_21 : K.dyn 339 21 = [] := rfl
@[go_sem] theorem live_351_0 : K.live 351 0 = none := rfl
@[go_sem] theorem out_351_0 : K.out 351 0 = none := rfl
@[go_sem] theorem live_351_1 : K.live 351 1 = none := rfl
@[go_sem] theorem out_351_1 : K.out 351 1 = none := rfl
@[go_sem] theorem live_351_2 : K.live 351 2 = some ([0, 2, 10], [(10, some 9, 13, false)], []) := rfl
@[go_sem] theorem out_351_2 : K.out 351 2 = some [0, 2, 10] := rfl
@[go_sem] theorem live_351_3 : K.live 351 3 = none := rfl
@[go_sem] theorem out_351_3 : K.out 351 3 = none := rfl
@[go_sem] theorem dyn_351_11 : K.dyn 351 11 = [(12,65)] := rfl
@[go_sem] theorem dyn_351_33 : K.dyn 351 33 = [(3,137)] := rfl
@[go_sem] theorem live_352_0 : K.live 352 0 = none := rfl
@[go_sem] theorem out_352_0 : K.out 352 0 = none := rfl
@[go_sem] theorem live_355_0 : K.live 355 0 = some ([1, 2, 21, 22, 23], [], []) := rfl
@[go_sem] theorem out_355_0 : K.out 355 0 = some [1, 2] := rfl
@[go_sem] theorem live_355_1 : K.live 355 1 = none := rfl
@[go_sem] theorem out_355_1 : K.out 355 1 = none := rfl
@[go_sem] theorem live_355_2 : K.live 355 2 = none := rfl
@[go_sem] theorem out_355_2 : K.out 355 2 = none := rfl
@[go_sem] theorem live_356_0 : K.live 356 0 = none := rfl
@[go_sem] theorem out_356_0 : K.out 356 0 = none := rfl
@[go_sem] theorem live_356_1 : K.live 356 1 = some ([0, 82, 83, 84], [], []) := rfl
@[go_sem] theorem out_356_1 : K.out 356 1 = some [0] := rfl
@[go_sem] theorem live_356_2 : K.live 356 2 = none := rfl
@[go_sem] theorem out_356_2 : K.out 356 2 = none := rfl
@[go_sem] theorem dyn_356_2 : K.dyn 356 2 = [(8,16)] := rfl
@[go_sem] theorem live_360_0 : K.live 360 0 = some ([2, 3, 4, 5], [], []) := rfl
@[go_sem] theorem out_360_0 : K.out 360 0 = some [2, 3, 4, 5] := rfl
@[go_sem] theorem live_360_1 : K.live 360 1 = none := rfl
@[go_sem] theorem out_360_1 : K.out 360 1 = none := rfl
@[go_sem] theorem live_360_2 : K.live 360 2 = some ([2, 3, 4, 5, 6], [], []) := rfl
@[go_sem] theorem out_360_2 : K.out 360 2 = some [2, 3, 4, 5, 6] := rfl
@[go_sem] theorem live_360_3 : K.live 360 3 = none := rfl
@[go_sem] theorem out_360_3 : K.out 360 3 = none := rfl
@[go_sem] theorem live_362_0 : K.live 362 0 = some ([1, 2, 23, 24, 25], [], []) := rfl
@[go_sem] theorem out_362_0 : K.out 362 0 = some [] := rfl
@[go_sem] theorem live_362_1 : K.live 362 1 = none := rfl
@[go_sem] theorem out_362_1 : K.out 362 1 = none := rfl
@[go_sem] theorem live_363_0 : K.live 363 0 = none := rfl
@[go_sem] theorem out_363_0 : K.out 363 0 = none := rfl
@[go_sem] theorem live_364_0 : K.live 364 0 = some ([3, 7, 8, 9], [], []) := rfl
@[go_sem] theorem out_364_0 : K.out 364 0 = some [] := rfl
@[go_sem] theorem live_364_1 : K.live 364 1 = none := rfl
@[go_sem] theorem out_364_1 : K.out 364 1 = none := rfl
@[go_sem] theorem live_365_0 : K.live 365 0 = none := rfl
@[go_sem] theorem out_365_0 : K.out 365 0 = none := rfl
@[go_sem] theorem live_366_0 : K.live 366 0 = none := rfl
@[go_sem] theorem out_366_0 : K.out 366 0 = none := rfl
@[go_sem] theorem dyn_366_36 : K.dyn 366 36 = [] := rfl
@[go_sem] theorem live_367_0 : K.live 367 0 = none := rfl
@[go_sem] theorem out_367_0 : K.out 367 0 = none := rfl
@[go_sem] theorem live_367_1 : K.live 367 1 = none := rfl
@[go_sem] theorem out_367_1 : K.out 367 1 = none := rfl
@[go_sem] theorem live_368_0 : K.live 368 0 = some ([4, 7, 8, 9], [], []) := rfl
@[go_sem] theorem out_368_0 : K.out 368 0 = some [4] := rfl
@[go_sem] theorem live_368_1 : K.live 368 1 = none := rfl
@[go_sem] theorem out_368_1 : K.out 368 1 = none := rfl
@[go_sem] theorem live_369_0 : K.live 369 0 = some ([0, 2, 3, 4, 10], [], []) := rfl
@[go_sem] theorem out_369_0 : K.out 369 0 = some [] := rfl
@[go_sem] theorem live_369_1 : K.live 369 1 = none := rfl
@[go_sem] theorem out_369_1 : K.out 369 1 = none := rfl
@[go_sem] theorem dyn_369_3 : K.dyn 369 3 = [(19,38)] := rfl
@[go_sem] theorem dyn_369_5 : K.dyn 369 5 = [(13,56)] := rfl
@[go_sem] theorem dyn_369_6 : K.dyn 369 6 = [] := rfl
@[go_sem] theorem live_374_0 : K.live 374 0 = some ([0, 2, 3, 4, 10], [], []) := rfl
@[go_sem] theorem out_374_0 : K.out 374 0 = some [] := rfl
@[go_sem] theorem live_374_1 : K.live 374 1 = none := rfl
@[go_sem] theorem out_374_1 : K.out 374 1 = none := rfl
@[go_sem] theorem dyn_374_3 : K.dyn 374 3 = [(19,38)] := rfl
@[go_sem] theorem dyn_374_5 : K.dyn 374 5 = [(13,56)] := rfl
@[go_sem] theorem dyn_374_6 : K.dyn 374 6 = [] := rfl
@[go_sem] theorem live_377_0 : K.live 377 0 = some ([0, 2, 3, 4, 10], [], []) := rfl
@[go_sem] theorem out_377_0 : K.out 377 0 = some [] := rfl
@[go_sem] theorem live_377_1 : K.live 377 1 = none := rfl
@[go_sem] theorem out_377_1 : K.out 377 1 = none := rfl
@[go_sem] theorem dyn_377_3 : K.dyn 377 3 = [(19,38)] := rfl
@[go_sem] theorem dyn_377_5 : K.dyn 377 5 = [(13,56)] := rfl
@[go_sem] theorem dyn_377_6 : K.dyn 377 6 = [] := rfl
@[go_sem] theorem live_382_0 : K.live 382 0 = some ([3, 6, 7, 8], [], []) := rfl
@[go_sem] theorem out_382_0 : K.out 382 0 = some [3] := rfl
@[go_sem] theorem live_382_1 : K.live 382 1 = none := rfl
@[go_sem] theorem out_382_1 : K.out 382 1 = none := rfl
@[go_sem] theorem live_384_0 : K.live 384 0 = some ([1, 4, 7, 8, 34, 35, 36], [(8, none, 3, false)], []) := rfl
@[go_sem] theorem out_384_0 : K.out 384 0 = some [4, 8] := rfl
@[go_sem] theorem live_384_1 : K.live 384 1 = none := rfl
@[go_sem] theorem out_384_1 : K.out 384 1 = none := rfl
@[go_sem] theorem dyn_384_2 : K.dyn 384 2 = [] := rfl
@[go_sem] theorem live_385_0 : K.live 385 0 = some ([0, 2, 3, 4, 10], [], []) := rfl
@[go_sem] theorem out_385_0 : K.out 385 0 = some [] := rfl
@[go_sem] theorem live_385_1 : K.live 385 1 = none := rfl
@[go_sem] theorem out_385_1 : K.out 385 1 = none := rfl
@[go_sem] theorem dyn_385_3 : K.dyn 385 3 = [(19,38)] := rfl
@[go_sem] theorem dyn_385_5 : K.dyn 385 5 = [(13,56)] := rfl
@[go_sem] theorem dyn_385_6 : K.dyn 385 6 = [] := rfl
@[go_sem] theorem live_393_0 : K.live 393 0 = some ([0, 3], [], []) := rfl
@[go_sem] theorem out_393_0 : K.out 393 0 = some [] := rfl
@[go_sem] theorem live_393_1 : K.live 393 1 = none := rfl
@[go_sem] theorem out_393_1 : K.out 393 1 = none := rfl
@[go_sem] theorem live_396_0 : K.live 396 0 = some ([0, 1, 5], [], []) := rfl
@[go_sem] theorem out_396_0 : K.out 396 0 = some [0, 5] := rfl
@[go_sem] theorem live_396_1 : K.live 396 1 = none := rfl
@[go_sem] theorem out_396_1 : K.out 396 1 = none := rfl
@[go_sem] theorem live_398_0 : K.live 398 0 = some ([0, 3], [], []) := rfl
@[go_sem] theorem out_398_0 : K.out 398 0 = some [] := rfl
@[go_sem] theorem live_398_1 : K.live 398 1 = none := rfl
@[go_sem] theorem out_398_1 : K.out 398 1 = none := rfl
@[go_sem] theorem live_399_0 : K.live 399 0 = none := rfl
@[go_sem] theorem out_399_0 : K.out 399 0 = none := rfl
@[go_sem] theorem live_400_0 : K.live 400 0 = none := rfl
@[go_sem] theorem out_400_0 : K.out 400 0 = none := rfl
@[go_sem] theorem live_401_0 : K.live 401 0 = none := rfl
@[go_sem] theorem out_401_0 : K.out 401 0 = none := rfl
@[go_sem] theorem live_403_0 : K.live 403 0 = some ([0, 2, 3, 14, 15], [], []) := rfl
@[go_sem] theorem out_403_0 : K.out 403 0 = some [0, 2, 3] := rfl
@[go_sem] theorem live_403_1 : K.live 403 1 = none := rfl
@[go_sem] theorem out_403_1 : K.out 403 1 = none := rfl
@[go_sem] theorem live_408_0 : K.live 408 0 = none := rfl
@[go_sem] theorem out_408_0 : K.out 408 0 = none := rfl
@[go_sem] theorem live_410_0 : K.live 410 0 = some ([0, 5, 6], [], []) := rfl
@[go_sem] theorem out_410_0 : K.out 410 0 = some [] := rfl
@[go_sem] theorem live_410_1 : K.live 410 1 = none := rfl
@[go_sem] theorem out_410_1 : K.out 410 1 = none := rfl
@[go_sem] theorem live_413_0 : K.live 413 0 = none := rfl
@[go_sem] theorem out_413_0 : K.out 413 0 = none := rfl
@[go_sem] theorem live_417_0 : K.live 417 0 = none := rfl
@[go_sem] theorem out_417_0 : K.out 417 0 = none := rfl
@[go_sem] theorem live_418_0 : K.live 418 0 = some ([0, 7, 8, 9], [], []) := rfl
@[go_sem] theorem out_418_0 : K.out 418 0 = some [] := rfl
@[go_sem] theorem live_418_1 : K.live 418 1 = none := rfl
@[go_sem] theorem out_418_1 : K.out 418 1 = none := rfl
@[go_sem] theorem live_419_0 : K.live 419 0 = none := rfl
@[go_sem] theorem out_419_0 : K.out 419 0 = none := rfl
@[go_sem] theorem dyn_419_1 : K.dyn 419 1 = [] := rfl
@[go_sem] theorem dyn_421_1 : K.dyn 421 1 = [(9,21)] := rfl
@[go_sem] theorem dyn_422_1 : K.dyn 422 1 = [(9,21)] := rfl
@[go_sem] theorem dyn_423_1 : K.dyn 423 1 = [(9,21)] := rfl
@[go_sem] theorem dyn_426_1 : K.dyn 426 1 = [(9,21)] := rfl
@[go_sem] theorem live_428_0 : K.live 428 0 = some ([0, 3], [], []) := rfl
@[go_sem] theorem out_428_0 : K.out 428 0 = some [] := rfl
@[go_sem] theorem live_428_1 : K.live 428 1 = none := rfl
@[go_sem] theorem out_428_1 : K.out 428 1 = none := rfl
@[go_sem] theorem live_429_0 : K.live 429 0 = none := rfl
@[go_sem] theorem out_429_0 : K.out 429 0 = none := rfl
@[go_sem] theorem live_430_0 : K.live 430 0 = some ([0, 1, 3, 4, 5, 12, 13, 14], [], []) := rfl
@[go_sem] theorem out_430_0 : K.out 430 0 = some [3, 4, 5, 12, 13] := rfl
@[go_sem] theorem live_430_1 : K.live 430 1 = none := rfl
@[go_sem] theorem out_430_1 : K.out 430 1 = none := rfl
theorem call_3 : CallT 3 Tryz.f3 := fun _ _ => R_call rfl rfl (by decide +kernel) rfl Tryz.func3 rfl
@[go_sem] theorem ret_3 (k : Nat) (fr : Fr) (h : Heap) : retOf K 3 k fr h = leaving 0 k h (resL Tryz.prog fr h [.tmp 2]) := ret_of Tryz.func3 rfl rfl
theorem call_4 : CallT 4 Tryz.f4 := fun _ _ => R_call rfl rfl (by decide +kernel) rfl Tryz.func4 rfl
@[go_sem] theorem ret_4 (k : Nat) (fr : Fr) (h : Heap) : retOf K 4 k fr h = leaving 0 k h (resL Tryz.prog fr h [.cell 2 25]) := ret_of Tryz.func4 rfl rfl
theorem call_5 : CallT 5 Tryz.f5 := fun _ _ => R_call rfl rfl (by decide +kernel) rfl Tryz.func5 rfl
@[go_sem] theorem ret_5 (k : Nat) (fr : Fr) (h : Heap) : retOf K 5 k fr h = leaving 0 k h (resL Tryz.prog fr h [.tmp 2]) := ret_of Tryz.func5 rfl rfl
theorem call_6 : CallT 6 Tryz.f6 := fun _ _ => R_call rfl rfl (by decide +kernel) rfl Tryz.func6 rfl
@[go_sem] theorem ret_6 (k : Nat) (fr : Fr) (h : Heap) : retOf K 6 k fr h = leaving 0 k h (resL Tryz.prog fr h [.tmp 2, .tmp 3, .tmp 4]) := ret_of Tryz.func6 rfl rfl
theorem call_7 {args : List AV} {h : Heap} (hp : K.prim 7 args = none) : R K (.call 7 args h) = R K (.run 7 h.length [.code (Tryz.f7.body.getD .skip)] (entry 0 args) h) := R_call hp rfl (by decide +kernel) rfl Tryz.func7 rfl
@[go_sem] theorem ret_7 (k : Nat) (fr : Fr) (h : Heap) : retOf K 7 k fr h = leaving 0 k h (resL Tryz.prog fr h [.tmp 0]) := ret_of Tryz.func7 rfl rfl
theorem call_8 : CallT 8 Tryz.f8 := fun _ _ => R_call rfl rfl (by decide +kernel) rfl Tryz.func8 rfl
@[go_sem] theorem ret_8 (k : Nat) (fr : Fr) (h : Heap) : retOf K 8 k fr h = leaving 0 k h (resL Tryz.prog fr h [.tmp 2]) := ret_of Tryz.func8 rfl rfl
theorem call_9 : CallT 9 Tryz.f9 := fun _ _ => R_call rfl rfl (by decide +kernel) rfl Tryz.func9 rfl
@[go_sem] theorem ret_9 (k : Nat) (fr : Fr) (h : Heap) : retOf K 9 k fr h = leaving 0 k h (resL Tryz.prog fr h [.cell 2 32, .tmp 3]) := ret_of Tryz.func9 rfl rfl
theorem call_10 : CallT 10 Tryz.f10 := fun _ _ => R_call rfl rfl (by decide +kernel) rfl Tryz.func10 rfl
@[go_sem] theorem ret_10 (k : Nat) (fr : Fr) (h : Heap) : retOf K 10 k fr h = leaving 0 k h (resL Tryz.prog fr h [.tmp 4]) := ret_of Tryz.func10 rfl rfl
theorem call_11 : CallT 11 Tryz.f11 := fun _ _ => R_call rfl rfl (by decide +kernel) rfl Tryz.func11 rfl
@[go_sem] theorem ret_11 (k : Nat) (fr : Fr) (h : Heap) : retOf K 11 k fr h = leaving 0 k h (resL Tryz.prog fr h [.cell 2 25]) := ret_of Tryz.func11 rfl rfl
theorem call_12 : CallT 12 Tryz.f12 := fun _ _ => R_call rfl rfl (by decide +kernel) rfl Tryz.func12 rfl
@[go_sem] theorem ret_12 (k : Nat) (fr : Fr) (h : Heap) : retOf K 12 k fr h = leaving 0 k h (resL Tryz.prog fr h [.tmp 4]) := ret_of Tryz.func12 rfl rfl
theorem call_13 : CallT 13 Tryz.f13 := fun _ _ => R_call rfl rfl (by decide +kernel) rfl Tryz.func13 rfl
@[go_sem] theorem ret_13 (k : Nat) (fr : Fr) (h : Heap) : retOf K 13 k fr h = leaving 0 k h (resL Tryz.prog fr h [.cell 4 25]) := ret_of Tryz.func13 rfl rfl
theorem call_14 : CallT 14 Tryz.f14 := fun _ _ => R_call rfl rfl (by decide +kernel) rfl Tryz.func14 rfl
@[go_sem] theorem ret_14 (k : Nat) (fr : Fr) (h : Heap) : retOf K 14 k fr h = leaving 0 k h (resL Tryz.prog fr h [.tmp 6]) := ret_of Tryz.func14 rfl rfl
theorem call_15 : CallT 15 Tryz.f15 := fun _ _ => R_call rfl rfl (by decide +kernel) rfl Tryz.func15 rfl
@[go_sem] theorem ret_15 (k : Nat) (fr : Fr) (h : Heap) : retOf K 15 k fr h = leaving 0 k h (resL Tryz.prog fr h [.tmp 2]) := ret_of Tryz.func15 rfl rfl
theorem call_16 : CallT 16 Tryz.f16 := fun _ _ => R_call rfl rfl (by decide +kernel) rfl Tryz.func16 rfl
@[go_sem] theorem ret_16 (k : Nat) (fr : Fr) (h : Heap) : retOf K 16 k fr h = leaving 0 k h (resL Tryz.prog fr h [.tmp 4]) := ret_of Tryz.func16 rfl rfl
theorem call_17 : CallT 17 Tryz.f17 := fun _ _ => R_call rfl rfl (by decide +kernel) rfl Tryz.func17 rfl
@[go_sem] theorem ret_17 (k : Nat) (fr : Fr) (h : Heap) : retOf K 17 k fr h = leaving 0 k h (resL Tryz.prog fr h [.tmp 4]) := ret_of Tryz.func17 rfl rfl
theorem call_18 : CallT 18 Tryz.f18 := fun _ _ => R_call rfl rfl (by decide +kernel) rfl Tryz.func18 rfl
@[go_sem] theorem ret_18 (k : Nat) (fr : Fr) (h : Heap) : retOf K 18 k fr h = leaving 0 k h (resL Tryz.prog fr h [.tmp 2]) := ret_of Tryz.func18 rfl rfl
theorem call_19 : CallT 19 Tryz.f19 := fun _ _ => R_call rfl rfl (by decide +kernel) rfl Tryz.func19 rfl
@[go_sem] theorem ret_19 (k : Nat) (fr : Fr) (h : Heap) : retOf K 19 k fr h = leaving 0 k h (resL Tryz.prog fr h [.tmp 5]) := ret_of Tryz.func19 rfl rfl
theorem call_20 : CallT 20 Tryz.f20 := fun _ _ => R_call rfl rfl (by decide +kernel) rfl Tryz.func20 rfl
@[go_sem] theorem ret_20 (k : Nat) (fr : Fr) (h : Heap) : retOf K 20 k fr h = leaving 0 k h (resL Tryz.prog fr h [.tmp 4]) := ret_of Tryz.func20 rfl rfl
theorem call_21 : CallT 21 Tryz.f21 := fun _ _ => R_call rfl rfl (by decide +kernel) rfl Tryz.func21 rfl
@[go_sem] theorem ret_21 (k : Nat) (fr : Fr) (h : Heap) : retOf K 21 k fr h = leaving 0 k h (resL Tryz.prog fr h [.tmp 6]) := ret_of Tryz.func21 rfl rfl
theorem call_22 : CallT 22 Tryz.f22 := fun _ _ => R_call rfl rfl (by decide +kernel) rfl Tryz.func22 rfl
@[go_sem] theorem ret_22 (k : Nat) (fr : Fr) (h : Heap) : retOf K 22 k fr h = leaving 0 k h (resL Tryz.prog fr h [.tmp 4]) := ret_of Tryz.func22 rfl rfl
theorem call_23 : CallT 23 Tryz.f23 := fun _ _ => R_call rfl rfl (by decide +kernel) rfl Tryz.func23 rfl
theorem call_24 : CallT 24 Tryz.f24 := fun _ _ => R_call rfl rfl (by decide +kernel) rfl Tryz.func24 rfl
theorem call_25 : CallT 25 Tryz.f25 := fun _ _ => R_call rfl rfl (by decide +kernel) rfl Tryz.func25 rfl
theorem call_26 : CallT 26 Tryz.f26 := fun _ _ => R_call rfl rfl (by decide +kernel) rfl Tryz.func26 rfl
theorem call_27 : CallT 27 Tryz.f27 := fun _ _ => R_call rfl rfl (by decide +kernel) rfl Tryz.func27 rfl
@[go_sem] theorem ret_27 (k : Nat) (fr : Fr) (h : Heap) : retOf K 27 k fr h = leaving 0 k h (resL Tryz.prog fr h [.tmp 2]) := ret_of Tryz.func27 rfl rfl
theorem call_28 : CallT 28 Tryz.f28 := fun _ _ => R_call rfl rfl (by decide +kernel) rfl Tryz.func28 rfl
@[go_sem] theorem ret_28 (k : Nat) (fr : Fr) (h : Heap) : retOf K 28 k fr h = leaving 0 k h (resL Tryz.prog fr h [.tmp 1]) := ret_of Tryz.func28 rfl rfl
theorem call_29 : CallT 29 Tryz.f29 := fun _ _ => R_call rfl rfl (by decide +kernel) rfl Tryz.func29 rfl
@[go_sem] theorem ret_29 (k : Nat) (fr : Fr) (h : Heap) : retOf K 29 k fr h = leaving 0 k h (resL Tryz.prog fr h [.tmp 4]) := ret_of Tryz.func29 rfl rfl
theorem call_30 : CallT 30 Tryz.f30 := fun _ _ => R_call rfl rfl (by decide +kernel) rfl Tryz.func30 rfl
@[go_sem] theorem ret_30 (k : Nat) (fr : Fr) (h : Heap) : retOf K 30 k fr h = leaving 0 k h (resL Tryz.prog fr h [.tmp 3]) := ret_of Tryz.func30 rfl rfl
theorem call_31 : CallT 31 Tryz.f31 := fun _ _ => R_call rfl rfl (by decide +kernel) rfl Tryz.func31 rfl
@[go_sem] theorem ret_31 (k : Nat) (fr : Fr) (h : Heap) : retOf K 31 k fr h = leaving 0 k h (resL Tryz.prog fr h [.tmp 4]) := ret_of Tryz.func31 rfl rfl
theorem call_32 : CallT 32 Tryz.f32 := fun _ _ => R_call rfl rfl (by decide +kernel) rfl Tryz.func32 rfl
@[go_sem] theorem ret_32 (k : Nat) (fr : Fr) (h : Heap) : retOf K 32 k fr h = leaving 0 k h (resL Tryz.prog fr h [.tmp 1]) := ret_of Tryz.func32 rfl rfl
theorem call_33 : CallT 33 Tryz.f33 := fun _ _ => R_call rfl rfl (by decide +kernel) rfl Tryz.func33 rfl
@[go_sem] theorem ret_33 (k : Nat) (fr : Fr) (h : Heap) : retOf K 33 k fr h = leaving 0 k h (resL Tryz.prog fr h [.tmp 3]) := ret_of Tryz.func33 rfl rfl
theorem call_34 : CallT 34 Tryz.f34 := fun _ _ => R_call rfl rfl (by decide +kernel) rfl Tryz.func34 rfl
@[go_sem] theorem ret_34 (k : Nat) (fr : Fr) (h : Heap) : retOf K 34 k fr h = leaving 0 k h (resL Tryz.prog fr h [.tmp 4]) := ret_of Tryz.func34 rfl rfl
theorem call_35 : CallT 35 Tryz.f35 := fun _ _ => R_call rfl rfl (by decide +kernel) rfl Tryz.func35 rfl
@[go_sem] theorem ret_35 (k : Nat) (fr : Fr) (h : Heap) : retOf K 35 k fr h = leaving 0 k h (resL Tryz.prog fr h [.tmp 6]) := ret_of Tryz.func35 rfl rfl
theorem call_36 : CallT 36 Tryz.f36 := fun _ _ => R_call rfl rfl (by decide +kernel) rfl Tryz.func36 rfl
@[go_sem] theorem ret_36 (k : Nat) (fr : Fr) (h : Heap) : retOf K 36 k fr h = leaving 0 k h (resL Tryz.prog fr h [.tmp 2]) := ret_of Tryz.func36 rfl rfl
theorem call_37 : CallT 37 Tryz.f37 := fun _ _ => R_call rfl rfl (by decide +kernel) rfl Tryz.func37 rfl
@[go_sem] theorem ret_37 (k : Nat) (fr : Fr) (h : Heap) : retOf K 37 k fr h = leaving 0 k h (resL Tryz.prog fr h [.tmp 4]) := ret_of Tryz.func37 rfl rfl
theorem call_38 : CallT 38 Tryz.f38 := fun _ _ => R_call rfl rfl (by decide +kernel) rfl Tryz.func38 rfl
@[go_sem] theorem ret_38 (k : Nat) (fr : Fr) (h : Heap) : retOf K 38 k fr h = leaving 0 k h (resL Tryz.prog fr h [.tmp 6]) := ret_of Tryz.func38 rfl rfl
theorem call_39 : CallT 39 Tryz.f39 := fun _ _ => R_call rfl rfl (by decide +kernel) rfl Tryz.func39 rfl
@[go_sem] theorem ret_39 (k : Nat) (fr : Fr) (h : Heap) : retOf K 39 k fr h = leaving 0 k h (resL Tryz.prog fr h [.tmp 6]) := ret_of Tryz.func39 rfl rfl
theorem call_40 : CallT 40 Tryz.f40 := fun _ _ => R_call rfl rfl (by decide +kernel) rfl Tryz.func40 rfl
@[go_sem] theorem ret_40 (k : Nat) (fr : Fr) (h : Heap) : retOf K 40 k fr h = leaving 0 k h (resL Tryz.prog fr h [.cell 4 47]) := ret_of Tryz.func40 rfl rfl
theorem call_41 : CallT 41 Tryz.f41 := fun _ _ => R_call rfl rfl (by decide +kernel) rfl Tryz.func41 rfl
@[go_sem] theorem ret_41 (k : Nat) (fr : Fr) (h : Heap) : retOf K 41 k fr h = leaving 0 k h (resL Tryz.prog fr h [.tmp 4]) := ret_of Tryz.func41 rfl rfl
theorem call_42 : CallT 42 Tryz.f42 := fun _ _ => R_call rfl rfl (by decide +kernel) rfl Tryz.func42 rfl
@[go_sem] theorem ret_42 (k : Nat) (fr : Fr) (h : Heap) : retOf K 42 k fr h = leaving 0 k h (resL Tryz.prog fr h [.tmp 4]) := ret_of Tryz.func42 rfl rfl
theorem call_43 : CallT 43 Tryz.f43 := fun _ _ => R_call rfl rfl (by decide +kernel) rfl Tryz.func43 rfl
@[go_sem] theorem ret_43 (k : Nat) (fr : Fr) (h : Heap) : retOf K 43 k fr h = leaving 0 k h (resL Tryz.prog fr h [.tmp 3]) := ret_of Tryz.func43 rfl rfl
theorem call_44 : CallT 44 Tryz.f44 := fun _ _ => R_call rfl rfl (by decide +kernel) rfl Tryz.func44 rfl
@[go_sem] theorem ret_44 (k : Nat) (fr : Fr) (h : Heap) : retOf K 44 k fr h = leaving 0 k h (resL Tryz.prog fr h [.tmp 4]) := ret_of Tryz.func44 rfl rfl
theorem call_45 {args : List AV} {h : Heap} (hp : K.prim 45 args = none) : R K (.call 45 args h) = R K (.run 45 h.length [.code (Tryz.f45.body.getD .skip)] (entry 0 args) h) := R_call hp rfl (by decide +kernel) rfl Tryz.func45 rfl
@[go_sem] theorem ret_45 (k : Nat) (fr : Fr) (h : Heap) : retOf K 45 k fr h = leaving 1 k h (resL Tryz.prog fr h [.tmp 2]) := ret_of Tryz.func45 rfl rfl
theorem call_46 {args : List AV} {h : Heap} (hp : K.prim 46 args = none) : R K (.call 46 args h) = R K (.run 46 h.length [.code (Tryz.f46.body.getD .skip)] (entry 0 args) h) := R_call hp rfl (by decide +kernel) rfl Tryz.func46 rfl
@[go_sem] theorem ret_46 (k : Nat) (fr : Fr) (h : Heap) : retOf K 46 k fr h = leaving 1 k h (resL Tryz.prog fr h [.tmp 2]) := ret_of Tryz.func46 rfl rfl
theorem call_47 {args : List AV} {h : Heap} (hp : K.prim 47 args = none) : R K (.call 47 args h) = R K (.run 47 h.length [.code (Tryz.f47.body.getD .skip)] (entry 0 args) h) := R_call hp rfl (by decide +kernel) rfl Tryz.func47 rfl
@[go_sem] theorem ret_47 (k : Nat) (fr : Fr) (h : Heap) : retOf K 47 k fr h = leaving 1 k h (resL Tryz.prog fr h [.tmp 2]) := ret_of Tryz.func47 rfl rfl
theorem call_48 {args : List AV} {h : Heap} (hp : K.prim 48 args = none) : R K (.call 48 args h) = R K (.run 48 h.length [.code (Tryz.f48.body.getD .skip)] (entry 0 args) h) := R_call hp rfl (by decide +kernel) rfl Tryz.func48 rfl
@[go_sem] theorem ret_48 (k : Nat) (fr : Fr) (h : Heap) : retOf K 48 k fr h = leaving 1 k h (resL Tryz.prog fr h [.tmp 2]) := ret_of Tryz.func48 rfl rfl
theorem call_49 : CallT 49 Tryz.f49 := fun _ _ => R_call rfl rfl (by decide +kernel) rfl Tryz.func49 rfl
@[go_sem] theorem ret_49 (k : Nat) (fr : Fr) (h : Heap) : retOf K 49 k fr h = leaving 0 k h (resL Tryz.prog fr h [.cell 2 54]) := ret_of Tryz.func49 rfl rfl
theorem call_50 : CallT 50 Tryz.f50 := fun _ _ => R_call rfl rfl (by decide +kernel) rfl Tryz.func50 rfl
@[go_sem] theorem ret_50 (k : Nat) (fr : Fr) (h : Heap) : retOf K 50 k fr h = leaving 0 k h (resL Tryz.prog fr h [.tmp 4]) := ret_of Tryz.func50 rfl rfl
theorem call_51 : CallT 51 Tryz.f51 := fun _ _ => R_call rfl rfl (by decide +kernel) rfl Tryz.func51 rfl
@[go_sem] theorem ret_51 (k : Nat) (fr : Fr) (h : Heap) : retOf K 51 k fr h = leaving 0 k h (resL Tryz.prog fr h [.tmp 4]) := ret_of Tryz.func51 rfl rfl
theorem call_52 : CallT 52 Tryz.f52 := fun _ _ => R_call rfl rfl (by decide +kernel) rfl Tryz.func52 rfl
@[go_sem] theorem ret_52 (k : Nat) (fr : Fr) (h : Heap) : retOf K 52 k fr h = leaving 0 k h (resL Tryz.prog fr h [.tmp 4]) := ret_of Tryz.func52 rfl rfl
theorem call_53 : CallT 53 Tryz.f53 := fun _ _ => R_call rfl rfl (by decide +kernel) rfl Tryz.func53 rfl
@[go_sem] theorem ret_53 (k : Nat) (fr : Fr) (h : Heap) : retOf K 53 k fr h = leaving 0 k h (resL Tryz.prog fr h [.tmp 4]) := ret_of Tryz.func53 rfl rfl
theorem call_54 : CallT 54 Tryz.f54 := fun _ _ => R_call rfl rfl (by decide +kernel) rfl Tryz.func54 rfl
@[go_sem] theorem ret_54 (k : Nat) (fr : Fr) (h : Heap) : retOf K 54 k fr h = leaving 0 k h (resL Tryz.prog fr h [.tmp 3]) := ret_of Tryz.func54 rfl rfl
theorem call_55 : CallT 55 Tryz.f55 := fun _ _ => R_call rfl rfl (by decide +kernel) rfl Tryz.func55 rfl
@[go_sem] theorem ret_55 (k : Nat) (fr : Fr) (h : Heap) : retOf K 55 k fr h = leaving 0 k h (resL Tryz.prog fr h [.tmp 3]) := ret_of Tryz.func55 rfl rfl
theorem call_56 : CallT 56 Tryz.f56 := fun _ _ => R_call rfl rfl (by decide +kernel) rfl Tryz.func56 rfl
@[go_sem] theorem ret_56 (k : Nat) (fr : Fr) (h : Heap) : retOf K 56 k fr h = leaving 0 k h (resL Tryz.prog fr h [.tmp 4]) := ret_of Tryz.func56 rfl rfl
theorem call_57 : CallT 57 Tryz.f57 := fun _ _ => R_call rfl rfl (by decide +kernel) rfl Tryz.func57 rfl
@[go_sem] theorem ret_57 (k : Nat) (fr : Fr) (h : Heap) : retOf K 57 k fr h = leaving 0 k h (resL Tryz.prog fr h [.tmp 3]) := ret_of Tryz.func57 rfl rfl
theorem call_58 : CallT 58 Tryz.f58 := fun _ _ => R_call rfl rfl (by decide +kernel) rfl Tryz.func58 rfl
theorem call_59 : CallT 59 Tryz.f59 := fun _ _ => R_call rfl rfl (by decide +kernel) rfl Tryz.func59 rfl
theorem call_60 : CallT 60 Tryz.f60 := fun _ _ => R_call rfl rfl (by decide +kernel) rfl Tryz.func60 rfl
theorem call_61 : CallT 61 Tryz.f61 := fun _ _ => R_call rfl rfl (by decide +kernel) rfl Tryz.func61 rfl
theorem call_62 : CallT 62 Tryz.f62 := fun _ _ => R_call rfl rfl (by decide +kernel) rfl Tryz.func62 rfl
theorem call_63 : CallT 63 Tryz.f63 := fun _ _ => R_call rfl rfl (by decide +kernel) rfl Tryz.func63 rfl
theorem call_64 : CallT 64 Tryz.f64 := fun _ _ => R_call rfl rfl (by decide +kernel) rfl Tryz.func64 rfl
theorem call_65 : CallT 65 Tryz.f65 := fun _ _ => R_call rfl rfl (by decide +kernel) rfl Tryz.func65 rfl
theorem call_66 : CallT 66 Tryz.f66 := fun _ _ => R_call rfl rfl (by decide +kernel) rfl Tryz.func66 rfl
theorem call_67 : CallT 67 Tryz.f67 := fun _ _ => R_call rfl rfl (by decide +kernel) rfl Tryz.func67 rfl
theorem call_68 : CallT 68 Tryz.f68 := fun _ _ => R_call rfl rfl (by decide +kernel) rfl Tryz.func68 rfl
@[go_sem] theorem ret_68 (k : Nat) (fr : Fr) (h : Heap) : retOf K 68 k fr h = leaving 0 k h (resL Tryz.prog fr h [.tmp 6]) := ret_of Tryz.func68 rfl rfl
theorem call_69 : CallT 69 Tryz.f69 := fun _ _ => R_call rfl rfl (by decide +kernel) rfl Tryz.func69 rfl
@[go_sem] theorem ret_69 (k : Nat) (fr : Fr) (h : Heap) : retOf K 69 k fr h = leaving 0 k h (resL Tryz.prog fr h [.tmp 2]) := ret_of Tryz.func69 rfl rfl
theorem call_70 : CallT 70 Tryz.f70 := fun _ _ => R_call rfl rfl (by decide +kernel) rfl Tryz.func70 rfl
@[go_sem] theorem ret_70 (k : Nat) (fr : Fr) (h : Heap) : retOf K 70 k fr h = leaving 0 k h (resL Tryz.prog fr h [.tmp 1]) := ret_of Tryz.func70 rfl rfl
theorem call_71 : CallT 71 Tryz.f71 := fun _ _ => R_call rfl rfl (by decide +kernel) rfl Tryz.func71 rfl
@[go_sem] theorem ret_71 (k : Nat) (fr : Fr) (h : Heap) : retOf K 71 k fr h = leaving 0 k h (resL Tryz.prog fr h [.tmp 2]) := ret_of Tryz.func71 rfl rfl
theorem call_72 : CallT 72 Tryz.f72 := fun _ _ => R_call rfl rfl (by decide +kernel) rfl Tryz.func72 rfl
@[go_sem] theorem ret_72 (k : Nat) (fr : Fr) (h : Heap) : retOf K 72 k fr h = leaving 0 k h (resL Tryz.prog fr h [.tmp 1]) := ret_of Tryz.func72 rfl rfl
theorem call_73 : CallT 73 Tryz.f73 := fun _ _ => R_call rfl rfl (by decide +kernel) rfl Tryz.func73 rfl
@[go_sem] theorem ret_73 (k : Nat) (fr : Fr) (h : Heap) : retOf K 73 k fr h = leaving 0 k h (resL Tryz.prog fr h [.tmp 6]) := ret_of Tryz.func73 rfl rfl
theorem call_74 : CallT 74 Tryz.f74 := fun _ _ => R_call rfl rfl (by decide +kernel) rfl Tryz.func74 rfl
@[go_sem] theorem ret_74 (k : Nat) (fr : Fr) (h : Heap) : retOf K 74 k fr h = leaving 0 k h (resL Tryz.prog fr h [.tmp 2]) := ret_of Tryz.func74 rfl rfl
theorem call_75 : CallT 75 Tryz.f75 := fun _ _ => R_call rfl rfl (by decide +kernel) rfl Tryz.func75 rfl
@[go_sem] theorem ret_75 (k : Nat) (fr : Fr) (h : Heap) : retOf K 75 k fr h = leaving 0 k h (resL Tryz.prog fr h [.tmp 1]) := ret_of Tryz.func75 rfl rfl
theorem call_76 : CallT 76 Tryz.f76 := fun _ _ => R_call rfl rfl (by decide +kernel) rfl Tryz.func76 rfl
@[go_sem] theorem ret_76 (k : Nat) (fr : Fr) (h : Heap) : retOf K 76 k fr h = leaving 0 k h (resL Tryz.prog fr h [.tmp 3]) := ret_of Tryz.func76 rfl rfl
theorem call_77 : CallT 77 Tryz.f77 := fun _ _ => R_call rfl rfl (by decide +kernel) rfl Tryz.func77 rfl
@[go_sem] theorem ret_77 (k : Nat) (fr : Fr) (h : Heap) : retOf K 77 k fr h = leaving 0 k h (resL Tryz.prog fr h [.tmp 2]) := ret_of Tryz.func77 rfl rfl
theorem call_78 : CallT 78 Tryz.f78 := fun _ _ => R_call rfl rfl (by decide +kernel) rfl Tryz.func78 rfl
@[go_sem] theorem ret_78 (k : Nat) (fr : Fr) (h : Heap) : retOf K 78 k fr h = leaving 0 k h (resL Tryz.prog fr h [.tmp 2]) := ret_of Tryz.func78 rfl rfl
theorem call_79 : CallT 79 Tryz.f79 := fun _ _ => R_call rfl rfl (by decide +kernel) rfl Tryz.func79 rfl
@[go_sem] theorem ret_79 (k : Nat) (fr : Fr) (h : Heap) : retOf K 79 k fr h = leaving 0 k h (resL Tryz.prog fr h [.tmp 1]) := ret_of Tryz.func79 rfl rfl
theorem call_80 : CallT 80 Tryz.f80 := fun _ _ => R_call rfl rfl (by decide +kernel) rfl Tryz.func80 rfl
@[go_sem] theorem ret_80 (k : Nat) (fr : Fr) (h : Heap) : retOf K 80 k fr h = leaving 0 k h (resL Tryz.prog fr h [.tmp 3]) := ret_of Tryz.func80 rfl rfl
theorem call_81 : CallT 81 Tryz.f81 := fun _ _ => R_call rfl rfl (by decide +kernel) rfl Tryz.func81 rfl
@[go_sem] theorem ret_81 (k : Nat) (fr : Fr) (h : Heap) : retOf K 81 k fr h = leaving 0 k h (resL Tryz.prog fr h [.tmp 2]) := ret_of Tryz.func81 rfl rfl
theorem call_82 : CallT 82 Tryz.f82 := fun _ _ => R_call rfl rfl (by decide +kernel) rfl Tryz.func82 rfl
@[go_sem] theorem ret_82 (k : Nat) (fr : Fr) (h : Heap) : retOf K 82 k fr h = leaving 0 k h (resL Tryz.prog fr h [.tmp 5]) := ret_of Tryz.func82 rfl rfl
theorem call_83 : CallT 83 Tryz.f83 := fun _ _ => R_call rfl rfl (by decide +kernel) rfl Tryz.func83 rfl
@[go_sem] theorem ret_83 (k : Nat) (fr : Fr) (h : Heap) : retOf K 83 k fr h = leaving 0 k h (resL Tryz.prog fr h [.tmp 4]) := ret_of Tryz.func83 rfl rfl
theorem call_84 : CallT 84 Tryz.f84 := fun _ _ => R_call rfl rfl (by decide +kernel) rfl Tryz.func84 rfl
@[go_sem] theorem ret_84 (k : Nat) (fr : Fr) (h : Heap) : retOf K 84 k fr h = leaving 0 k h (resL Tryz.prog fr h [.tmp 4]) := ret_of Tryz.func84 rfl rfl
theorem call_85 : CallT 85 Tryz.f85 := fun _ _ => R_call rfl rfl (by decide +kernel) rfl Tryz.func85 rfl
@[go_sem] theorem ret_85 (k : Nat) (fr : Fr) (h : Heap) : retOf K 85 k fr h = leaving 0 k h (resL Tryz.prog fr h [.cell 4 56]) := ret_of Tryz.func85 rfl rfl
theorem call_86 : CallT 86 Tryz.f86 := fun _ _ => R_call rfl rfl (by decide +kernel) rfl Tryz.func86 rfl
@[go_sem] theorem ret_86 (k : Nat) (fr : Fr) (h : Heap) : retOf K 86 k fr h = leaving 0 k h (resL Tryz.prog fr h [.tmp 4]) := ret_of Tryz.func86 rfl rfl
theorem call_87 : CallT 87 Tryz.f87 := fun _ _ => R_call rfl rfl (by decide +kernel) rfl Tryz.func87 rfl
@[go_sem] theorem ret_87 (k : Nat) (fr : Fr) (h : Heap) : retOf K 87 k fr h = leaving 0 k h (resL Tryz.prog fr h [.tmp 4]) := ret_of Tryz.func87 rfl rfl
theorem call_88 : CallT 88 Tryz.f88 := fun _ _ => R_call rfl rfl (by decide +kernel) rfl Tryz.func88 rfl
@[go_sem] theorem ret_88 (k : Nat) (fr : Fr) (h : Heap) : retOf K 88 k fr h = leaving 0 k h (resL Tryz.prog fr h [.cell 4 54]) := ret_of Tryz.func88 rfl rfl
theorem call_89 : CallT 89 Tryz.f89 := fun _ _ => R_call rfl rfl (by decide +kernel) rfl Tryz.func89 rfl
@[go_sem] theorem ret_89 (k : Nat) (fr : Fr) (h : Heap) : retOf K 89 k fr h = leaving 0 k h (resL Tryz.prog fr h [.tmp 2]) := ret_of Tryz.func89 rfl rfl
theorem call_90 : CallT 90 Tryz.f90 := fun _ _ => R_call rfl rfl (by decide +kernel) rfl Tryz.func90 rfl
@[go_sem] theorem ret_90 (k : Nat) (fr : Fr) (h : Heap) : retOf K 90 k fr h = leaving 0 k h (resL Tryz.prog fr h [.tmp 2]) := ret_of Tryz.func90 rfl rfl
theorem call_92 : CallT 92 Tryz.f92 := fun _ _ => R_call rfl rfl (by decide +kernel) rfl Tryz.func92 rfl
@[go_sem] theorem ret_92 (k : Nat) (fr : Fr) (h : Heap) : retOf K 92 k fr h = leaving 0 k h (resL Tryz.prog fr h [.tmp 6]) := ret_of Tryz.func92 rfl rfl
theorem call_94 : CallT 94 Tryz.f94 := fun _ _ => R_call rfl rfl (by decide +kernel) rfl Tryz.func94 rfl
@[go_sem] theorem ret_94 (k : Nat) (fr : Fr) (h : Heap) : retOf K 94 k fr h = leaving 0 k h (resL Tryz.prog fr h [.tmp 4]) := ret_of Tryz.func94 rfl rfl
theorem call_98 : CallT 98 Tryz.f98 := fun _ _ => R_call rfl rfl (by decide +kernel) rfl Tryz.func98 rfl
theorem call_99 : CallT 99 Tryz.f99 := fun _ _ => R_call rfl rfl (by decide +kernel) rfl Tryz.func99 rfl
theorem call_100 : CallT 100 Tryz.f100 := fun _ _ => R_call rfl rfl (by decide +kernel) rfl Tryz.func100 rfl
theorem call_101 : CallT 101 Tryz.f101 := fun _ _ => R_call rfl rfl (by decide +kernel) rfl Tryz.func101 rfl
theorem call_102 : CallT 102 Tryz.f102 := fun _ _ => R_call rfl rfl (by decide +kernel) rfl Tryz.func102 rfl
theorem call_103 : CallT 103 Tryz.f103 := fun _ _ => R_call rfl rfl (by decide +kernel) rfl Tryz.func103 rfl
theorem call_104 : CallT 104 Tryz.f104 := fun _ _ => R_call rfl rfl (by decide +kernel) rfl Tryz.func104 rfl
theorem call_105 : CallT 105 Tryz.f105 := fun _ _ => R_call rfl rfl (by decide +kernel) rfl Tryz.func105 rfl
theorem call_106 : CallT 106 Tryz.f106 := fun _ _ => R_call rfl rfl (by decide +kernel) rfl Tryz.func106 rfl
theorem call_107 : CallT 107 Tryz.f107 := fun _ _ => R_call rfl rfl (by decide +kernel) rfl Tryz.func107 rfl
theorem call_109 : CallT 109 Tryz.f109 := fun _ _ => R_call rfl rfl (by decide +kernel) rfl Tryz.func109 rfl
theorem call_110 : CallT 110 Tryz.f110 := fun _ _ => R_call rfl rfl (by decide +kernel) rfl Tryz.func110 rfl
theorem call_111 : CallT 111 Tryz.f111 := fun _ _ => R_call rfl rfl (by decide +kernel) rfl Tryz.func111 rfl
theorem call_112 : CallT 112 Tryz.f112 := fun _ _ => R_call rfl rfl (by decide +kernel) rfl Tryz.func112 rfl
theorem call_113 : CallT 113 Tryz.f113 := fun _ _ => R_call rfl rfl (by decide +kernel) rfl Tryz.func113 rfl
theorem call_114 : CallT 114 Tryz.f114 := fun _ _ => R_call rfl rfl (by decide +kernel) rfl Tryz.func114 rfl
theorem call_115 : CallT 115 Tryz.f115 := fun _ _ => R_call rfl rfl (by decide +kernel) rfl Tryz.func115 rfl
theorem call_116 : CallT 116 Tryz.f116 := fun _ _ => R_call rfl rfl (by decide +kernel) rfl Tryz.func116 rfl
theorem call_117 : CallT 117 Tryz.f117 := fun _ _ => R_call rfl rfl (by decide +kernel) rfl Tryz.func117 rfl
theorem call_118 : CallT 118 Tryz.f118 := fun _ _ => R_call rfl rfl (by decide +kernel) rfl Tryz.func118 rfl
theorem call_119 : CallT 119 Tryz.f119 := fun _ _ => R_call rfl rfl (by decide +kernel) rfl Tryz.func119 rfl
theorem call_120 : CallT 120 Tryz.f120 := fun _ _ => R_call rfl rfl (by decide +kernel) rfl Tryz.func120 rfl
theorem call_121 : CallT 121 Tryz.f121 := fun _ _ => R_call rfl rfl (by decide +kernel) rfl Tryz.func121 rfl
theorem call_122 : CallT 122 Tryz.f122 := fun _ _ => R_call rfl rfl (by decide +kernel) rfl Tryz.func122 rfl
theorem call_123 : CallT 123 Tryz.f123 := fun _ _ => R_call rfl rfl (by decide +kernel) rfl Tryz.func123 rfl
theorem call_124 : CallT 124 Tryz.f124 := fun _ _ => R_call rfl rfl (by decide +kernel) rfl Tryz.func124 rfl
theorem call_125 : CallT 125 Tryz.f125 := fun _ _ => R_call rfl rfl (by decide +kernel) rfl Tryz.func125 rfl
theorem call_126 : CallT 126 Tryz.f126 := fun _ _ => R_call rfl rfl (by decide +kernel) rfl Tryz.func126 rfl
theorem call_127 : CallT 127 Tryz.f127 := fun _ _ => R_call rfl rfl (by decide +kernel) rfl Tryz.func127 rfl
theorem call_128 {args : List AV} {h : Heap} (hp : K.prim 128 args = none) : R K (.call 128 args h) = R K (.run 128 h.length [.code (Tryz.f128.body.getD .skip)] (entry 0 args) h) := R_call hp rfl (by decide +kernel) rfl Tryz.func128 rfl
theorem call_129 : CallT 129 Tryz.f129 := fun _ _ => R_call rfl rfl (by decide +kernel) rfl Tryz.func129 rfl
theorem call_130 : CallT 130 Tryz.f130 := fun _ _ => R_call rfl rfl (by decide +kernel) rfl Tryz.func130 rfl
theorem call_131 : CallT 131 Tryz.f131 := fun _ _ => R_call rfl rfl (by decide +kernel) rfl Tryz.func131 rfl
theorem call_132 : CallT 132 Tryz.f132 := fun _ _ => R_call rfl rfl (by decide +kernel) rfl Tryz.func132 rfl
theorem call_133 : CallT 133 Tryz.f133 := fun _ _ => R_call rfl rfl (by decide +kernel) rfl Tryz.func133 rfl
theorem call_134 : CallT 134 Tryz.f134 := fun _ _ => R_call rfl rfl (by decide +kernel) rfl Tryz.func134 rfl
theorem call_135 : CallT 135 Tryz.f135 := fun _ _ => R_call rfl rfl (by decide +kernel) rfl Tryz.func135 rfl
theorem call_136 : CallT 136 Tryz.f136 := fun _ _ => R_call rfl rfl (by decide +kernel) rfl Tryz.func136 rfl
theorem call_137 : CallT 137 Tryz.f137 := fun _ _ => R_call rfl rfl (by decide +kernel) rfl Tryz.func137 rfl
theorem call_138 : CallT 138 Tryz.f138 := fun _ _ => R_call rfl rfl (by decide +kernel) rfl Tryz.func138 rfl
theorem call_139 : CallT 139 Tryz.f139 := fun _ _ => R_call rfl rfl (by decide +kernel) rfl Tryz.func139 rfl
theorem call_140 : CallT 140 Tryz.f140 := fun _ _ => R_call rfl rfl (by decide +kernel) rfl Tryz.func140 rfl
theorem call_141 : CallT 141 Tryz.f141 := fun _ _ => R_call rfl rfl (by decide +kernel) rfl Tryz.func141 rfl
theorem call_142 : CallT 142 Tryz.f142 := fun _ _ => R_call rfl rfl (by decide +kernel) rfl Tryz.func142 rfl
theorem call_143 : CallT 143 Tryz.f143 := fun _ _ => R_call rfl rfl (by decide +kernel) rfl Tryz.func143 rfl
theorem call_144 : CallT 144 Tryz.f144 := fun _ _ => R_call rfl rfl (by decide +kernel) rfl Tryz.func144 rfl
theorem call_145 : CallT 145 Tryz.f145 := fun _ _ => R_call rfl rfl (by decide +kernel) rfl Tryz.func145 rfl
theorem call_146 : CallT 146 Tryz.f146 := fun _ _ => R_call rfl rfl (by decide +kernel) rfl Tryz.func146 rfl
theorem call_147 : CallT 147 Tryz.f147 := fun _ _ => R_call rfl rfl (by decide +kernel) rfl Tryz.func147 rfl
theorem call_148 : CallT 148 Tryz.f148 := fun _ _ => R_call rfl rfl (by decide +kernel) rfl Tryz.func148 rfl
theorem call_149 : CallT 149 Tryz.f149 := fun _ _ => R_call rfl rfl (by decide +kernel) rfl Tryz.func149 rfl
theorem call_150 : CallT 150 Tryz.f150 := fun _ _ => R_call rfl rfl (by decide +kernel) rfl Tryz.func150 rfl
@[go_sem] theorem ret_150 (k : Nat) (fr : Fr) (h : Heap) : retOf K 150 k fr h = leaving 0 k h (resL Tryz.prog fr h [.tmp 2]) := ret_of Tryz.func150 rfl rfl
theorem call_151 : CallT 151 Tryz.f151 := fun _ _ => R_call rfl rfl (by decide +kernel) rfl Tryz.func151 rfl
@[go_sem] theorem ret_151 (k : Nat) (fr : Fr) (h : Heap) : retOf K 151 k fr h = leaving 0 k h (resL Tryz.prog fr h [.tmp 3]) := ret_of Tryz.func151 rfl rfl
theorem call_152 : CallT 152 Tryz.f152 := fun _ _ => R_call rfl rfl (by decide +kernel) rfl Tryz.func152 rfl
@[go_sem] theorem ret_152 (k : Nat) (fr : Fr) (h : Heap) : retOf K 152 k fr h = leaving 0 k h (resL Tryz.prog fr h [.tmp 6]) := ret_of Tryz.func152 rfl rfl
theorem call_153 : CallT 153 Tryz.f153 := fun _ _ => R_call rfl rfl (by decide +kernel) rfl Tryz.func153 rfl
@[go_sem] theorem ret_153 (k : Nat) (fr : Fr) (h : Heap) : retOf K 153 k fr h = leaving 0 k h (resL Tryz.prog fr h [.tmp 4]) := ret_of Tryz.func153 rfl rfl
theorem call_154 : CallT 154 Tryz.f154 := fun _ _ => R_call rfl rfl (by decide +kernel) rfl Tryz.func154 rfl
@[go_sem] theorem ret_154 (k : Nat) (fr : Fr) (h : Heap) : retOf K 154 k fr h = leaving 0 k h (resL Tryz.prog fr h [.tmp 5]) := ret_of Tryz.func154 rfl rfl
theorem call_155 : CallT 155 Tryz.f155 := fun _ _ => R_call rfl rfl (by decide +kernel) rfl Tryz.func155 rfl
@[go_sem] theorem ret_155 (k : Nat) (fr : Fr) (h : Heap) : retOf K 155 k fr h = leaving 0 k h (resL Tryz.prog fr h [.tmp 3]) := ret_of Tryz.func155 rfl rfl
theorem call_156 : CallT 156 Tryz.f156 := fun _ _ => R_call rfl rfl (by decide +kernel) rfl Tryz.func156 rfl
@[go_sem] theorem ret_156 (k : Nat) (fr : Fr) (h : Heap) : retOf K 156 k fr h = leaving 0 k h (resL Tryz.prog fr h [.cell 4 54]) := ret_of Tryz.func156 rfl rfl
theorem call_160 : CallT 160 Tryz.f160 := fun _ _ => R_call rfl rfl (by decide +kernel) rfl Tryz.func160 rfl
@[go_sem] theorem ret_160 (k : Nat) (fr : Fr) (h : Heap) : retOf K 160 k fr h = leaving 0 k h (resL Tryz.prog fr h [.tmp 4, .tmp 5]) := ret_of Tryz.func160 rfl rfl
theorem call_161 : CallT 161 Tryz.f161 := fun _ _ => R_call rfl rfl (by decide +kernel) rfl Tryz.func161 rfl
@[go_sem] theorem ret_161 (k : Nat) (fr : Fr) (h : Heap) : retOf K 161 k fr h = leaving 0 k h (resL Tryz.prog fr h [.tmp 2]) := ret_of Tryz.func161 rfl rfl
theorem call_170 : CallT 170 Tryz.f170 := fun _ _ => R_call rfl rfl (by decide +kernel) rfl Tryz.func170 rfl
@[go_sem] theorem ret_170 (k : Nat) (fr : Fr) (h : Heap) : retOf K 170 k fr h = leaving 0 k h (resL Tryz.prog fr h [.tmp 2]) := ret_of Tryz.func170 rfl rfl
theorem call_171 : CallT 171 Tryz.f171 := fun _ _ => R_call rfl rfl (by decide +kernel) rfl Tryz.func171 rfl
theorem call_173 : CallT 173 Tryz.f173 := fun _ _ => R_call rfl rfl (by decide +kernel) rfl Tryz.func173 rfl
theorem call_174 : CallT 174 Tryz.f174 := fun _ _ => R_call rfl rfl (by decide +kernel) rfl Tryz.func174 rfl
@[go_sem] theorem ret_174 (k : Nat) (fr : Fr) (h : Heap) : retOf K 174 k fr h = leaving 0 k h (resL Tryz.prog fr h [.tmp 4]) := ret_of Tryz.func174 rfl rfl
theorem call_175 : CallT 175 Tryz.f175 := fun _ _ => R_call rfl rfl (by decide +kernel) rfl Tryz.func175 rfl
theorem call_176 : CallT 176 Tryz.f176 := fun _ _ => R_call rfl rfl (by decide +kernel) rfl Tryz.func176 rfl
theorem call_177 : CallT 177 Tryz.f177 := fun _ _ => R_call rfl rfl (by decide +kernel) rfl Tryz.func177 rfl
theorem call_178 : CallT 178 Tryz.f178 := fun _ _ => R_call rfl rfl (by decide +kernel) rfl Tryz.func178 rfl
theorem call_179 : CallT 179 Tryz.f179 := fun _ _ => R_call rfl rfl (by decide +kernel) rfl Tryz.func179 rfl
theorem call_180 : CallT 180 Tryz.f180 := fun _ _ => R_call rfl rfl (by decide +kernel) rfl Tryz.func180 rfl
theorem call_182 : CallT 182 Tryz.f182 := fun _ _ => R_call rfl rfl (by decide +kernel) rfl Tryz.func182 rfl
theorem call_183 : CallT 183 Tryz.f183 := fun _ _ => R_call rfl rfl (by decide +kernel) rfl Tryz.func183 rfl
theorem call_184 : CallT 184 Tryz.f184 := fun _ _ => R_call rfl rfl (by decide +kernel) rfl Tryz.func184 rfl
theorem call_185 : CallT 185 Tryz.f185 := fun _ _ => R_call rfl rfl (by decide +kernel) rfl Tryz.func185 rfl
theorem call_186 : CallT 186 Tryz.f186 := fun _ _ => R_call rfl rfl (by decide +kernel) rfl Tryz.func186 rfl
theorem call_187 : CallT 187 Tryz.f187 := fun _ _ => R_call rfl rfl (by decide +kernel) rfl Tryz.func187 rfl
theorem call_188 : CallT 188 Tryz.f188 := fun _ _ => R_call rfl rfl (by decide +kernel) rfl Tryz.func188 rfl
theorem call_189 : CallT 189 Tryz.f189 := fun _ _ => R_call rfl rfl (by decide +kernel) rfl Tryz.func189 rfl
theorem call_190 : CallT 190 Tryz.f190 := fun _ _ => R_call rfl rfl (by decide +kernel) rfl Tryz.func190 rfl
theorem call_191 : CallT 191 Tryz.f191 := fun _ _ => R_call rfl rfl (by decide +kernel) rfl Tryz.func191 rfl
theorem call_192 : CallT 192 Tryz.f192 := fun _ _ => R_call rfl rfl (by decide +kernel) rfl Tryz.func192 rfl
theorem call_193 : CallT 193 Tryz.f193 := fun _ _ => R_call rfl rfl (by decide +kernel) rfl Tryz.func193 rfl
theorem call_194 : CallT 194 Tryz.f194 := fun _ _ => R_call rfl rfl (by decide +kernel) rfl Tryz.func194 rfl
theorem call_195 : CallT 195 Tryz.f195 := fun _ _ => R_call rfl rfl (by decide +kernel) rfl Tryz.func195 rfl
theorem call_196 : CallT 196 Tryz.f196 := fun _ _ => R_call rfl rfl (by decide +kernel) rfl Tryz.func196 rfl
theorem call_197 : CallT 197 Tryz.f197 := fun _ _ => R_call rfl rfl (by decide +kernel) rfl Tryz.func197 rfl
theorem call_198 : CallT 198 Tryz.f198 := fun _ _ => R_call rfl rfl (by decide +kernel) rfl Tryz.func198 rfl
theorem call_199 : CallT 199 Tryz.f199 := fun _ _ => R_call rfl rfl (by decide +kernel) rfl Tryz.func199 rfl
theorem call_200 : CallT 200 Tryz.f200 := fun _ _ => R_call rfl rfl (by decide +kernel) rfl Tryz.func200 rfl
theorem call_201 : CallT 201 Tryz.f201 := fun _ _ => R_call rfl rfl (by decide +kernel) rfl Tryz.func201 rfl
theorem call_202 : CallT 202 Tryz.f202 := fun _ _ => R_call rfl rfl (by decide +kernel) rfl Tryz.func202 rfl
theorem call_203 : CallT 203 Tryz.f203 := fun _ _ => R_call rfl rfl (by decide +kernel) rfl Tryz.func203 rfl
theorem call_204 : CallT 204 Tryz.f204 := fun _ _ => R_call rfl rfl (by decide +kernel) rfl Tryz.func204 rfl
theorem call_205 : CallT 205 Tryz.f205 := fun _ _ => R_call rfl rfl (by decide +kernel) rfl Tryz.func205 rfl
theorem call_206 : CallT 206 Tryz.f206 := fun _ _ => R_call rfl rfl (by decide +kernel) rfl Tryz.func206 rfl
theorem call_207 : CallT 207 Tryz.f207 := fun _ _ => R_call rfl rfl (by decide +kernel) rfl Tryz.func207 rfl
theorem call_208 : CallT 208 Tryz.f208 := fun _ _ => R_call rfl rfl (by decide +kernel) rfl Tryz.func208 rfl
theorem call_209 : CallT 209 Tryz.f209 := fun _ _ => R_call rfl rfl (by decide +kernel) rfl Tryz.func209 rfl
theorem call_210 : CallT 210 Tryz.f210 := fun _ _ => R_call rfl rfl (by decide +kernel) rfl Tryz.func210 rfl
theorem call_211 : CallT 211 Tryz.f211 := fun _ _ => R_call rfl rfl (by decide +kernel) rfl Tryz.func211 rfl
theorem call_212 : CallT 212 Tryz.f212 := fun _ _ => R_call rfl rfl (by decide +kernel) rfl Tryz.func212 rfl
theorem call_213 : CallT 213 Tryz.f213 := fun _ _ => R_call rfl rfl (by decide +kernel) rfl Tryz.func213 rfl
theorem call_214 : CallT 214 Tryz.f214 := fun _ _ => R_call rfl rfl (by decide +kernel) rfl Tryz.func214 rfl
theorem call_215 : CallT 215 Tryz.f215 := fun _ _ => R_call rfl rfl (by decide +kernel) rfl Tryz.func215 rfl
theorem call_216 : CallT 216 Tryz.f216 := fun _ _ => R_call rfl rfl (by decide +kernel) rfl Tryz.func216 rfl
theorem call_217 : CallT 217 Tryz.f217 := fun _ _ => R_call rfl rfl (by decide +kernel) rfl Tryz.func217 rfl
theorem call_218 : CallT 218 Tryz.f218 := fun _ _ => R_call rfl rfl (by decide +kernel) rfl Tryz.func218 rfl
theorem call_219 : CallT 219 Tryz.f219 := fun _ _ => R_call rfl rfl (by decide +kernel) rfl Tryz.func219 rfl
theorem call_220 : CallT 220 Tryz.f220 := fun _ _ => R_call rfl rfl (by decide +kernel) rfl Tryz.func220 rfl
theorem call_221 : CallT 221 Tryz.f221 := fun _ _ => R_call rfl rfl (by decide +kernel) rfl Tryz.func221 rfl
theorem call_222 : CallT 222 Tryz.f222 := fun _ _ => R_call rfl rfl (by decide +kernel) rfl Tryz.func222 rfl
theorem call_223 : CallT 223 Tryz.f223 := fun _ _ => R_call rfl rfl (by decide +kernel) rfl Tryz.func223 rfl
theorem call_224 : CallT 224 Tryz.f224 := fun _ _ => R_call rfl rfl (by decide +kernel) rfl Tryz.func224 rfl
theorem call_226 : CallT 226 Tryz.f226 := fun _ _ => R_call rfl rfl (by decide +kernel) rfl Tryz.func226 rfl
theorem call_227 : CallT 227 Tryz.f227 := fun _ _ => R_call rfl rfl (by decide +kernel) rfl Tryz.func227 rfl
theorem call_228 : CallT 228 Tryz.f228 := fun _ _ => R_call rfl rfl (by decide +kernel) rfl Tryz.func228 rfl
theorem call_229 : CallT 229 Tryz.f229 := fun _ _ => R_call rfl rfl (by decide +kernel) rfl Tryz.func229 rfl
theorem call_230 : CallT 230 Tryz.f230 := fun _ _ => R_call rfl rfl (by decide +kernel) rfl Tryz.func230 rfl
theorem call_231 : CallT 231 Tryz.f231 := fun _ _ => R_call rfl rfl (by decide +kernel) rfl Tryz.func231 rfl
theorem call_232 : CallT 232 Tryz.f232 := fun _ _ => R_call rfl rfl (by decide +kernel) rfl Tryz.func232 rfl
theorem call_233 : CallT 233 Tryz.f233 := fun _ _ => R_call rfl rfl (by decide +kernel) rfl Tryz.func233 rfl
theorem call_234 : CallT 234 Tryz.f234 := fun _ _ => R_call rfl rfl (by decide +kernel) rfl Tryz.func234 rfl
theorem call_235 : CallT 235 Tryz.f235 := fun _ _ => R_call rfl rfl (by decide +kernel) rfl Tryz.func235 rfl
theorem call_236 : CallT 236 Tryz.f236 := fun _ _ => R_call rfl rfl (by decide +kernel) rfl Tryz.func236 rfl
theorem call_237 : CallT 237 Tryz.f237 := fun _ _ => R_call rfl rfl (by decide +kernel) rfl Tryz.func237 rfl
theorem call_238 : CallT 238 Tryz.f238 := fun _ _ => R_call rfl rfl (by decide +kernel) rfl Tryz.func238 rfl
theorem call_239 : CallT 239 Tryz.f239 := fun _ _ => R_call rfl rfl (by decide +kernel) rfl Tryz.func239 rfl
theorem call_240 : CallT 240 Tryz.f240 := fun _ _ => R_call rfl rfl (by decide +kernel) rfl Tryz.func240 rfl
theorem call_241 : CallT 241 Tryz.f241 := fun _ _ => R_call rfl rfl (by decide +kernel) rfl Tryz.func241 rfl
theorem call_242 : CallT 242 Tryz.f242 := fun _ _ => R_call rfl rfl (by decide +kernel) rfl Tryz.func242 rfl
theorem call_243 : CallT 243 Tryz.f243 := fun _ _ => R_call rfl rfl (by decide +kernel) rfl Tryz.func243 rfl
theorem call_244 : CallT 244 Tryz.f244 := fun _ _ => R_call rfl rfl (by decide +kernel) rfl Tryz.func244 rfl
theorem call_245 : CallT 245 Tryz.f245 := fun _ _ => R_call rfl rfl (by decide +kernel) rfl Tryz.func245 rfl
theorem call_246 : CallT 246 Tryz.f246 := fun _ _ => R_call rfl rfl (by decide +kernel) rfl Tryz.func246 rfl
@[go_sem] theorem ret_246 (k : Nat) (fr : Fr) (h : Heap) : retOf K 246 k fr h = leaving 0 k h (resL Tryz.prog fr h [.tmp 2]) := ret_of Tryz.func246 rfl rfl
theorem call_247 : CallT 247 Tryz.f247 := fun _ _ => R_call rfl rfl (by decide +kernel) rfl Tryz.func247 rfl
@[go_sem] theorem ret_247 (k : Nat) (fr : Fr) (h : Heap) : retOf K 247 k fr h = leaving 0 k h (resL Tryz.prog fr h [.tmp 6]) := ret_of Tryz.func247 rfl rfl
theorem call_248 : CallT 248 Tryz.f248 := fun _ _ => R_call rfl rfl (by decide +kernel) rfl Tryz.func248 rfl
@[go_sem] theorem ret_248 (k : Nat) (fr : Fr) (h : Heap) : retOf K 248 k fr h = leaving 0 k h (resL Tryz.prog fr h [.tmp 2]) := ret_of Tryz.func248 rfl rfl
theorem call_249 : CallT 249 Tryz.f249 := fun _ _ => R_call rfl rfl (by decide +kernel) rfl Tryz.func249 rfl
@[go_sem] theorem ret_249 (k : Nat) (fr : Fr) (h : Heap) : retOf K 249 k fr h = leaving 0 k h (resL Tryz.prog fr h [.tmp 2]) := ret_of Tryz.func249 rfl rfl
theorem call_252 : CallT 252 Tryz.f252 := fun _ _ => R_call rfl rfl (by decide +kernel) rfl Tryz.func252 rfl
@[go_sem] theorem ret_252 (k : Nat) (fr : Fr) (h : Heap) : retOf K 252 k fr h = leaving 0 k h (resL Tryz.prog fr h [.tmp 4]) := ret_of Tryz.func252 rfl rfl
theorem call_257 : CallT 257 Tryz.f257 := fun _ _ => R_call rfl rfl (by decide +kernel) rfl Tryz.func257 rfl
@[go_sem] theorem ret_257 (k : Nat) (fr : Fr) (h : Heap) : retOf K 257 k fr h = leaving 0 k h (resL Tryz.prog fr h [.tmp 4]) := ret_of Tryz.func257 rfl rfl
theorem call_259 : CallT 259 Tryz.f259 := fun _ _ => R_call rfl rfl (by decide +kernel) rfl Tryz.func259 rfl
theorem call_263 : CallT 263 Tryz.f263 := fun _ _ => R_call rfl rfl (by decide +kernel) rfl Tryz.func263 rfl
theorem call_265 : CallT 265 Tryz.f265 := fun _ _ => R_call rfl rfl (by decide +kernel) rfl Tryz.func265 rfl
theorem call_266 : CallT 266 Tryz.f266 := fun _ _ => R_call rfl rfl (by decide +kernel) rfl Tryz.func266 rfl
theorem call_269 : CallT 269 Tryz.f269 := fun _ _ => R_call rfl rfl (by decide +kernel) rfl Tryz.func269 rfl
theorem call_270 : CallT 270 Tryz.f270 := fun _ _ => R_call rfl rfl (by decide +kernel) rfl Tryz.func270 rfl
theorem call_274 : CallT 274 Tryz.f274 := fun _ _ => R_call rfl rfl (by decide +kernel) rfl Tryz.func274 rfl
theorem call_275 : CallT 275 Tryz.f275 := fun _ _ => R_call rfl rfl (by decide +kernel) rfl Tryz.func275 rfl
theorem call_276 : CallT 276 Tryz.f276 := fun _ _ => R_call rfl rfl (by decide +kernel) rfl Tryz.func276 rfl
theorem call_277 : CallT 277 Tryz.f277 := fun _ _ => R_call rfl rfl (by decide +kernel) rfl Tryz.func277 rfl
theorem call_278 : CallT 278 Tryz.f278 := fun _ _ => R_call rfl rfl (by decide +kernel) rfl Tryz.func278 rfl
theorem call_279 : CallT 279 Tryz.f279 := fun _ _ => R_call rfl rfl (by decide +kernel) rfl Tryz.func279 rfl
theorem call_280 : CallT 280 Tryz.f280 := fun _ _ => R_call rfl rfl (by decide +kernel) rfl Tryz.func280 rfl
theorem call_281 : CallT 281 Tryz.f281 := fun _ _ => R_call rfl rfl (by decide +kernel) rfl Tryz.func281 rfl
theorem call_282 : CallT 282 Tryz.f282 := fun _ _ => R_call rfl rfl (by decide +kernel) rfl Tryz.func282 rfl
theorem call_283 : CallT 283 Tryz.f283 := fun _ _ => R_call rfl rfl (by decide +kernel) rfl Tryz.func283 rfl
theorem call_284 : CallT 284 Tryz.f284 := fun _ _ => R_call rfl rfl (by decide +kernel) rfl Tryz.func284 rfl
theorem call_285 : CallT 285 Tryz.f285 := fun _ _ => R_call rfl rfl (by decide +kernel) rfl Tryz.func285 rfl
theorem call_286 : CallT 286 Tryz.f286 := fun _ _ => R_call rfl rfl (by decide +kernel) rfl Tryz.func286 rfl
theorem call_287 : CallT 287 Tryz.f287 := fun _ _ => R_call rfl rfl (by decide +kernel) rfl Tryz.func287 rfl
theorem call_288 : CallT 288 Tryz.f288 := fun _ _ => R_call rfl rfl (by decide +kernel) rfl Tryz.func288 rfl
theorem call_289 : CallT 289 Tryz.f289 := fun _ _ => R_call rfl rfl (by decide +kernel) rfl Tryz.func289 rfl
theorem call_290 : CallT 290 Tryz.f290 := fun _ _ => R_call rfl rfl (by decide +kernel) rfl Tryz.func290 rfl
theorem call_291 : CallT 291 Tryz.f291 := fun _ _ => R_call rfl rfl (by decide +kernel) rfl Tryz.func291 rfl
theorem call_292 : CallT 292 Tryz.f292 := fun _ _ => R_call rfl rfl (by decide +kernel) rfl Tryz.func292 rfl
theorem call_295 : CallT 295 Tryz.f295 := fun _ _ => R_call rfl rfl (by decide +kernel) rfl Tryz.func295 rfl
theorem call_296 : CallT 296 Tryz.f296 := fun _ _ => R_call rfl rfl (by decide +kernel) rfl Tryz.func296 rfl
theorem call_297 : CallT 297 Tryz.f297 := fun _ _ => R_call rfl rfl (by decide +kernel) rfl Tryz.func297 rfl
theorem call_298 : CallT 298 Tryz.f298 := fun _ _ => R_call rfl rfl (by decide +kernel) rfl Tryz.func298 rfl
theorem call_299 : CallT 299 Tryz.f299 := fun _ _ => R_call rfl rfl (by decide +kernel) rfl Tryz.func299 rfl
theorem call_300 : CallT 300 Tryz.f300 := fun _ _ => R_call rfl rfl (by decide +kernel) rfl Tryz.func300 rfl
theorem call_301 : CallT 301 Tryz.f301 := fun _ _ => R_call rfl rfl (by decide +kernel) rfl Tryz.func301 rfl
theorem call_302 : CallT 302 Tryz.f302 := fun _ _ => R_call rfl rfl (by decide +kernel) rfl Tryz.func302 rfl
theorem call_303 : CallT 303 Tryz.f303 := fun _ _ => R_call rfl rfl (by decide +kernel) rfl Tryz.func303 rfl
theorem call_304 : CallT 304 Tryz.f304 := fun _ _ => R_call rfl rfl (by decide +kernel) rfl Tryz.func304 rfl
theorem call_305 : CallT 305 Tryz.f305 := fun _ _ => R_call rfl rfl (by decide +kernel) rfl Tryz.func305 rfl
theorem call_306 : CallT 306 Tryz.f306 := fun _ _ => R_call rfl rfl (by decide +kernel) rfl Tryz.func306 rfl
theorem call_307 : CallT 307 Tryz.f307 := fun _ _ => R_call rfl rfl (by decide +kernel) rfl Tryz.func307 rfl
theorem call_308 : CallT 308 Tryz.f308 := fun _ _ => R_call rfl rfl (by decide +kernel) rfl Tryz.func308 rfl
theorem call_309 : CallT 309 Tryz.f309 := fun _ _ => R_call rfl rfl (by decide +kernel) rfl Tryz.func309 rfl
theorem call_310 : CallT 310 Tryz.f310 := fun _ _ => R_call rfl rfl (by decide +kernel) rfl Tryz.func310 rfl
theorem call_311 : CallT 311 Tryz.f311 := fun _ _ => R_call rfl rfl (by decide +kernel) rfl Tryz.func311 rfl
theorem call_312 : CallT 312 Tryz.f312 := fun _ _ => R_call rfl rfl (by decide +kernel) rfl Tryz.func312 rfl
theorem call_313 : CallT 313 Tryz.f313 := fun _ _ => R_call rfl rfl (by decide +kernel) rfl Tryz.func313 rfl
theorem call_314 : CallT 314 Tryz.f314 := fun _ _ => R_call rfl rfl (by decide +kernel) rfl Tryz.func314 rfl
theorem call_315 : CallT 315 Tryz.f315 := fun _ _ => R_call rfl rfl (by decide +kernel) rfl Tryz.func315 rfl
theorem call_316 : CallT 316 Tryz.f316 := fun _ _ => R_call rfl rfl (by decide +kernel) rfl Tryz.func316 rfl
theorem call_317 : CallT 317 Tryz.f317 := fun _ _ => R_call rfl rfl (by decide +kernel) rfl Tryz.func317 rfl
theorem call_318 : CallT 318 Tryz.f318 := fun _ _ => R_call rfl rfl (by decide +kernel) rfl Tryz.func318 rfl
theorem call_319 : CallT 319 Tryz.f319 := fun _ _ => R_call rfl rfl (by decide +kernel) rfl Tryz.func319 rfl
theorem call_320 : CallT 320 Tryz.f320 := fun _ _ => R_call rfl rfl (by decide +kernel) rfl Tryz.func320 rfl
theorem call_321 : CallT 321 Tryz.f321 := fun _ _ => R_call rfl rfl (by decide +kernel) rfl Tryz.func321 rfl
theorem call_322 : CallT 322 Tryz.f322 := fun _ _ => R_call rfl rfl (by decide +kernel) rfl Tryz.func322 rfl
theorem call_323 : CallT 323 Tryz.f323 := fun _ _ => R_call rfl rfl (by decide +kernel) rfl Tryz.func323 rfl
theorem call_324 : CallT 324 Tryz.f324 := fun _ _ => R_call rfl rfl (by decide +kernel) rfl Tryz.func324 rfl
theorem call_325 : CallT 325 Tryz.f325 := fun _ _ => R_call rfl rfl (by decide +kernel) rfl Tryz.func325 rfl
theorem call_326 : CallT 326 Tryz.f326 := fun _ _ => R_call rfl rfl (by decide +kernel) rfl Tryz.func326 rfl
theorem call_327 : CallT 327 Tryz.f327 := fun _ _ => R_call rfl rfl (by decide +kernel) rfl Tryz.func327 rfl
theorem call_328 : CallT 328 Tryz.f328 := fun _ _ => R_call rfl rfl (by decide +kernel) rfl Tryz.func328 rfl
theorem call_329 : CallT 329 Tryz.f329 := fun _ _ => R_call rfl rfl (by decide +kernel) rfl Tryz.func329 rfl
theorem call_330 : CallT 330 Tryz.f330 := fun _ _ => R_call rfl rfl (by decide +kernel) rfl Tryz.func330 rfl
theorem call_331 : CallT 331 Tryz.f331 := fun _ _ => R_call rfl rfl (by decide +kernel) rfl Tryz.func331 rfl
theorem call_332 : CallT 332 Tryz.f332 := fun _ _ => R_call rfl rfl (by decide +kernel) rfl Tryz.func332 rfl
theorem call_333 : CallT 333 Tryz.f333 := fun _ _ => R_call rfl rfl (by decide +kernel) rfl Tryz.func333 rfl
theorem call_334 : CallT 334 Tryz.f334 := fun _ _ => R_call rfl rfl (by decide +kernel) rfl Tryz.func334 rfl
theorem call_335 : CallT 335 Tryz.f335 := fun _ _ => R_call rfl rfl (by decide +kernel) rfl Tryz.func335 rfl
theorem call_336 : CallT 336 Tryz.f336 := fun _ _ => R_call rfl rfl (by decide +kernel) rfl Tryz.func336 rfl
theorem call_337 : CallT 337 Tryz.f337 := fun _ _ => R_call rfl rfl (by decide +kernel) rfl Tryz.func337 rfl
theorem call_338 : CallT 338 Tryz.f338 := fun _ _ => R_call rfl rfl (by decide +kernel) rfl Tryz.func338 rfl
theorem call_339 : CallT 339 Tryz.f339 := fun _ _ => R_call rfl rfl (by decide +kernel) rfl Tryz.func339 rfl
theorem call_351 : CallT 351 Tryz.f351 := fun _ _ => R_call rfl rfl (by decide +kernel) rfl Tryz.func351 rfl
theorem call_352 : CallT 352 Tryz.f352 := fun _ _ => R_call rfl rfl (by decide +kernel) rfl Tryz.func352 rfl
theorem call_353 : CallT 353 Tryz.f353 := fun _ _ => R_call rfl rfl (by decide +kernel) rfl Tryz.func353 rfl
theorem call_355 : CallT 355 Tryz.f355 := fun _ _ => R_call rfl rfl (by decide +kernel) rfl Tryz.func355 rfl
theorem call_356 (args : List AV) (h : Heap) : R K (.call 356 args h) = R K (.run 356 (ownedB (entry 0 args) h [(0, 1, 5)]).length [.code (Tryz.f356.body.getD .skip)] (entry 0 args) (ownedB (entry 0 args) h [(0, 1, 5)])) := R_callO rfl rfl (by decide +kernel) rfl Tryz.func356 rfl
theorem call_360 : CallT 360 Tryz.f360 := fun _ _ => R_call rfl rfl (by decide +kernel) rfl Tryz.func360 rfl
theorem call_361 : CallT 361 Tryz.f361 := fun _ _ => R_call rfl rfl (by decide +kernel) rfl Tryz.func361 rfl
theorem call_362 : CallT 362 Tryz.f362 := fun _ _ => R_call rfl rfl (by decide +kernel) rfl Tryz.func362 rfl
theorem call_363 : CallT 363 Tryz.f363 := fun _ _ => R_call rfl rfl (by decide +kernel) rfl Tryz.func363 rfl
theorem call_364 : CallT 364 Tryz.f364 := fun _ _ => R_call rfl rfl (by decide +kernel) rfl Tryz.func364 rfl
theorem call_365 : CallT 365 Tryz.f365 := fun _ _ => R_call rfl rfl (by decide +kernel) rfl Tryz.func365 rfl
theorem call_366 : CallT 366 Tryz.f366 := fun _ _ => R_call rfl rfl (by decide +kernel) rfl Tryz.func366 rfl
theorem call_367 : CallT 367 Tryz.f367 := fun _ _ => R_call rfl rfl (by decide +kernel) rfl Tryz.func367 rfl
theorem call_368 : CallT 368 Tryz.f368 := fun _ _ => R_call rfl rfl (by decide +kernel) rfl Tryz.func368 rfl
theorem call_369 : CallT 369 Tryz.f369 := fun _ _ => R_call rfl rfl (by decide +kernel) rfl Tryz.func369 rfl
theorem call_370 : CallT 370 Tryz.f370 := fun _ _ => R_call rfl rfl (by decide +kernel) rfl Tryz.func370 rfl
theorem call_372 : CallT 372 Tryz.f372 := fun _ _ => R_call rfl rfl (by decide +kernel) rfl Tryz.func372 rfl
theorem call_373 : CallT 373 Tryz.f373 := fun _ _ => R_call rfl rfl (by decide +kernel) rfl Tryz.func373 rfl
theorem call_374 : CallT 374 Tryz.f374 := fun _ _ => R_call rfl rfl (by decide +kernel) rfl Tryz.func374 rfl
theorem call_375 : CallT 375 Tryz.f375 := fun _ _ => R_call rfl rfl (by decide +kernel) rfl Tryz.func375 rfl
theorem call_376 : CallT 376 Tryz.f376 := fun _ _ => R_call rfl rfl (by decide +kernel) rfl Tryz.func376 rfl
theorem call_377 : CallT 377 Tryz.f377 := fun _ _ => R_call rfl rfl (by decide +kernel) rfl Tryz.func377 rfl
theorem call_378 : CallT 378 Tryz.f378 := fun _ _ => R_call rfl rfl (by decide +kernel) rfl Tryz.func378 rfl
theorem call_379 : CallT 379 Tryz.f379 := fun _ _ => R_call rfl rfl (by decide +kernel) rfl Tryz.func379 rfl
theorem call_380 : CallT 380 Tryz.f380 := fun _ _ => R_call rfl rfl (by decide +kernel) rfl Tryz.func380 rfl
theorem call_381 : CallT 381 Tryz.f381 := fun _ _ => R_call rfl rfl (by decide +kernel) rfl Tryz.func381 rfl
theorem call_382 : CallT 382 Tryz.f382 := fun _ _ => R_call rfl rfl (by decide +kernel) rfl Tryz.func382 rfl
theorem call_383 : CallT 383 Tryz.f383 := fun _ _ => R_call rfl rfl (by decide +kernel) rfl Tryz.func383 rfl
theorem call_384 : CallT 384 Tryz.f384 := fun _ _ => R_call rfl rfl (by decide +kernel) rfl Tryz.func384 rfl
theorem call_385 : CallT 385 Tryz.f385 := fun _ _ => R_call rfl rfl (by decide +kernel) rfl Tryz.func385 rfl
theorem call_386 : CallT 386 Tryz.f386 := fun _ _ => R_call rfl rfl (by decide +kernel) rfl Tryz.func386 rfl
theorem call_387 : CallT 387 Tryz.f387 := fun _ _ => R_call rfl rfl (by decide +kernel) rfl Tryz.func387 rfl
theorem call_391 : CallT 391 Tryz.f391 := fun _ _ => R_call rfl rfl (by decide +kernel) rfl Tryz.func391 rfl
theorem call_392 : CallT 392 Tryz.f392 := fun _ _ => R_call rfl rfl (by decide +kernel) rfl Tryz.func392 rfl
theorem call_393 : CallT 393 Tryz.f393 := fun _ _ => R_call rfl rfl (by decide +kernel) rfl Tryz.func393 rfl
theorem call_394 : CallT 394 Tryz.f394 := fun _ _ => R_call rfl rfl (by decide +kernel) rfl Tryz.func394 rfl
theorem call_395 : CallT 395 Tryz.f395 := fun _ _ => R_call rfl rfl (by decide +kernel) rfl Tryz.func395 rfl
theorem call_396 : CallT 396 Tryz.f396 := fun _ _ => R_call rfl rfl (by decide +kernel) rfl Tryz.func396 rfl
theorem call_397 : CallT 397 Tryz.f397 := fun _ _ => R_call rfl rfl (by decide +kernel) rfl Tryz.func397 rfl
theorem call_398 : CallT 398 Tryz.f398 := fun _ _ => R_call rfl rfl (by decide +kernel) rfl Tryz.func398 rfl
theorem call_399 : CallT 399 Tryz.f399 := fun _ _ => R_call rfl rfl (by decide +kernel) rfl Tryz.func399 rfl
theorem call_400 : CallT 400 Tryz.f400 := fun _ _ => R_call rfl rfl (by decide +kernel) rfl Tryz.func400 rfl
theorem call_401 : CallT 401 Tryz.f401 := fun _ _ => R_call rfl rfl (by decide +kernel) rfl Tryz.func401 rfl
theorem call_402 : CallT 402 Tryz.f402 := fun _ _ => R_call rfl rfl (by decide +kernel) rfl Tryz.func402 rfl
theorem call_403 : CallT 403 Tryz.f403 := fun _ _ => R_call rfl rfl (by decide +kernel) rfl Tryz.func403 rfl
theorem call_407 : CallT 407 Tryz.f407 := fun _ _ => R_call rfl rfl (by decide +kernel) rfl Tryz.func407 rfl
theorem call_408 : CallT 408 Tryz.f408 := fun _ _ => R_call rfl rfl (by decide +kernel) rfl Tryz.func408 rfl
theorem call_409 : CallT 409 Tryz.f409 := fun _ _ => R_call rfl rfl (by decide +kernel) rfl Tryz.func409 rfl
theorem call_410 : CallT 410 Tryz.f410 := fun _ _ => R_call rfl rfl (by decide +kernel) rfl Tryz.func410 rfl
theorem call_411 : CallT 411 Tryz.f411 := fun _ _ => R_call rfl rfl (by decide +kernel) rfl Tryz.func411 rfl
theorem call_412 : CallT 412 Tryz.f412 := fun _ _ => R_call rfl rfl (by decide +kernel) rfl Tryz.func412 rfl
theorem call_413 : CallT 413 Tryz.f413 := fun _ _ => R_call rfl rfl (by decide +kernel) rfl Tryz.func413 rfl
theorem call_414 : CallT 414 Tryz.f414 := fun _ _ => R_call rfl rfl (by decide +kernel) rfl Tryz.func414 rfl
theorem call_416 : CallT 416 Tryz.f416 := fun _ _ => R_call rfl rfl (by decide +kernel) rfl Tryz.func416 rfl
theorem call_417 : CallT 417 Tryz.f417 := fun _ _ => R_call rfl rfl (by decide +kernel) rfl Tryz.func417 rfl
theorem call_418 : CallT 418 Tryz.f418 := fun _ _ => R_call rfl rfl (by decide +kernel) rfl Tryz.func418 rfl
theorem call_419 : CallT 419 Tryz.f419 := fun _ _ => R_call rfl rfl (by decide +kernel) rfl Tryz.func419 rfl
theorem call_420 : CallT 420 Tryz.f420 := fun _ _ => R_call rfl rfl (by decide +kernel) rfl Tryz.func420 rfl
theorem call_421 : CallT 421 Tryz.f421 := fun _ _ => R_call rfl rfl (by decide +kernel) rfl Tryz.func421 rfl
theorem call_422 : CallT 422 Tryz.f422 := fun _ _ => R_call rfl rfl (by decide +kernel) rfl Tryz.func422 rfl
theorem call_423 : CallT 423 Tryz.f423 := fun _ _ => R_call rfl rfl (by decide +kernel) rfl Tryz.func423 rfl
theorem call_424 : CallT 424 Tryz.f424 := fun _ _ => R_call rfl rfl (by decide +kernel) rfl Tryz.func424 rfl
theorem call_425 : CallT 425 Tryz.f425 := fun _ _ => R_call rfl rfl (by decide +kernel) rfl Tryz.func425 rfl
theorem call_426 : CallT 426 Tryz.f426 := fun _ _ => R_call rfl rfl (by decide +kernel) rfl Tryz.func426 rfl
theorem call_427 : CallT 427 Tryz.f427 := fun _ _ => R_call rfl rfl (by decide +kernel) rfl Tryz.func427 rfl
theorem call_428 : CallT 428 Tryz.f428 := fun _ _ => R_call rfl rfl (by decide +kernel) rfl Tryz.func428 rfl
theorem call_429 : CallT 429 Tryz.f429 := fun _ _ => R_call rfl rfl (by decide +kernel) rfl Tryz.func429 rfl
theorem call_430 : CallT 430 Tryz.f430 := fun _ _ => R_call rfl rfl (by decide +kernel) rfl Tryz.func430 rfl
theorem call_437 : CallT 437 Tryz.f437 := fun _ _ => R_call rfl rfl (by decide +kernel) rfl Tryz.func437 rfl
theorem call_438 : CallT 438 Tryz.f438 := fun _ _ => R_call rfl rfl (by decide +kernel) rfl Tryz.func438 rfl
theorem call_449 : CallT 449 Tryz.f449 := fun _ _ => R_call rfl rfl (by decide +kernel) rfl Tryz.func449 rfl
end Go.Ab
namespace Go.Ab
open Go Go.Proofs
attribute [go_sem] R_seq R_cond R_exit R_ret R_end R_blk R_skip onUnw_some outOf_none onCond_true onCond_false get_eq get_ne put_some put_none ev_tmp ev_const ev_func
attribute [go_sem] stepO stepD stepQ stepA isQ quietOp alo fill numA plOf Go.Ab.alloc cellsOf single singles vunit val aLoad part pieces purify purifyL purifyK purifyKL pur purA sliceOf callOp callOpD callD afterD evs callBy afterPure slotOf getO aUn pick aStr aStore buildV fillBy splice fieldA fieldV addOff aBin isConst aInt eqOp yesO notO leaving guardU resL resV tupOf locs locsL locsH locsB locsF leaveR leave leaveL leaveG leaveGL leaveRows orRows leave1 leave2 leave3 keptA locsR renR ofVal ofVals entry placeOf eqV eqCells eqCell unwind onLoop onRound owned frz restr builtinD tk? lenV indexS indexP rowOk minV minI maxV maxI extractV convertV nilCheckV sliceS sliceV sliceR sliceArr List.length_replicate bounds2 high low bound evo rowsOf appendV appendTo firstConst freshOf List.length_map allLen cut touchesQ touches touchesCall clears List.any_cons List.contains_nil List.contains_cons lookupV mapSet mapNew noKey insA ltKey keyFit intsB capV nilOf nilEq heapC nilC orV nilOr freshZ pstOf frzC findA keyEq keyOk mapPut entriesOf lookRes Int.ofNat_eq_natCast Int.cast_ofNat_Int
@[go_sem] theorem appendX_own {el : Option TypeId} {wq : Bool} {h : Heap} {z b l n : Nat} {ys : List (List AV)} : appendX el wq h z b ys (.own l n) = appendTo wq h z b (.own l n) ys := rfl
@[go_sem] theorem appendX_nils {el : Option TypeId} {wq : Bool} {h : Heap} {z b : Nat} {ys : List (List AV)} : appendX el wq h z b ys .nils = appendTo wq h z b .nils ys := rfl
@[go_sem] theorem appendX_lit {el : Option TypeId} {wq : Bool} {h : Heap} {z b : Nat} {rs ys : List (List AV)} : appendX el wq h z b ys (.lit rs) = appendTo wq h z b (.lit rs) ys := rfl
@[go_sem] theorem appendX_rows {el : Option TypeId} {wq : Bool} {h : Heap} {z b : Nat} {rs ys : List (List AV)} : appendX el wq h z b ys (.rows rs) = appendTo wq h z b (.rows rs) ys := rfl
@[go_sem] theorem appendX_town {t : TypeId} {wq : Bool} {h : Heap} {z b l n : Nat} {ys : List (List AV)} : appendX (some t) wq h z b ys (.town t l n) = tyO t (appendTo wq h z b (.own l n) ys) := by simp [appendX]
@[go_sem] theorem tyO_own {t : TypeId} {l n : Nat} {h : Heap} : tyO t (some (.own l n, h)) = some (.town t l n, h) := rfl
@[go_sem] theorem allocT_no {t : TypeId} {r : Option (AV × Heap)} : allocT false t r = r := rfl
@[go_sem] theorem allocT_yes {t : TypeId} {l o : Nat} {h : Heap} : allocT true t (some (.ptr l o, h)) = some (.tptr t l o, h) := rfl
@[go_sem] theorem callV_fn {nl : FuncId → Bool} {F : Tk → Res} {h : Heap} {args caps : List AV} {g : FuncId} : callV nl F h args (.fn g caps) = callBy F g h (args ++ caps) (purA (nl g) h (args ++ caps)) := rfl
@[go_sem] theorem callV_bnd {nl : FuncId → Bool} {F : Tk → Res} {h : Heap} {args fs : List AV} {g : FuncId} : callV nl F h args (.bnd g fs) = callBy F g h (fs ++ args) (purA (nl g) h (fs ++ args)) := rfl
attribute [go_sem] appendS
@[go_sem] theorem K_nlA : K.nlA = nlA := rfl
@[go_sem] theorem K_post : K.post = post := rfl
attribute [go_sem] nlA post
theorem clears_chg {dy : List (Nat × Nat)} {i : Nat} {fr : Fr} {h h' : Heap} {T : List Nat} (e : clears dy i fr T = true) : clears dy i fr (chg h h' T) = true := by
  have sub : ∀ (T : List Nat) (l : Nat), l ∈ chg h h' T → l ∈ T := fun T l => by
    induction T with
    | nil => simp [chg]
    | cons x r ih =>
      simp only [chg]
      split
      · exact fun hx => List.mem_cons_of_mem _ (ih hx)
      · intro hx
        rcases List.mem_cons.1 hx with rfl | hx
        · simp
        · exact List.mem_cons_of_mem _ (ih hx)
  induction dy with
  | nil => rfl
  | cons a r ih =>
    obtain ⟨j, s⟩ := a
    simp only [clears, Bool.and_eq_true] at e ⊢
    refine ⟨?_, ih e.2⟩
    have e1 := e.1
    by_cases hj : j = i
    · simp only [hj, if_true, Bool.not_eq_true', List.any_eq_false, List.contains_iff_mem] at e1 ⊢
      exact fun l hl hx => e1 l hl (sub T l hx)
    · simp only [hj, if_false]
@[go_sem] theorem clearAll_none {dy : List (Nat × Nat)} {fr : Fr} : clearAll dy fr [] = true := rfl
@[go_sem] theorem clearAll_chg {dy : List (Nat × Nat)} {fr : Fr} {i : Nat} {h h' : Heap} {T : List Nat} {r : List (Nat × List Nat)} : clearAll dy fr ((i, chg h h' T) :: r) = ((clears dy i fr T || clears dy i fr (chg h h' T)) && clearAll dy fr r) := by
  simp only [clearAll]
  cases hc : clears dy i fr T with
  | false => simp
  | true => simp [clears_chg hc]
@[go_sem] theorem orBuild_some {h : Heap} {r : Option (AV × Heap)} {v : AV} : orBuild h r (some v) = some (v, h) := rfl
@[go_sem] theorem orBuild_none {h : Heap} {ev : Operand → AV} {n z b : Nat} {ps : List (Nat × Operand)} : orBuild h (buildN h ev n ps (some (z, b))) none = sliceN n z h (piecesN h ev z 0 ps) := rfl
attribute [go_sem] sliceN piecesN
@[go_sem] theorem under_nil (n : Nat) : under n [] = true := rfl
@[go_sem] theorem under_cons (n l : Nat) (r : List Nat) : (under n (l :: r) = true) = (l < n ∧ under n r = true) := by simp [under]
@[go_sem] theorem outOf_cut {F : Tk → Res} {f k n : Nat} {ks : List It} {fr : Fr} {h : Heap} {l : List Nat} : outOf F f k ks n fr h (some l) = if k ≤ n ∧ (under n (locsF (restr fr l)) = true ∧ under n (locsH (h.take n)) = true) then F (.run f k ks (restr fr l) (h.take n)) else F (.run f k ks (restr fr l) h) := by
  simp [outOf]
@[go_sem] theorem onTurn_some {F : Tk → Res} {f k n : Nat} {ks : List It} {fr : Fr} {h : Heap} {c : Code} {live : List Nat × List Nat} : onTurn F f k ks c live n (some (fr, h)) = if k ≤ n ∧ (under n (locsF fr) = true ∧ under n (locsH (h.take n)) = true) then F (.run f k (.code c :: .lp c (some live) n :: ks) fr (h.take n)) else F (.run f k (.code c :: .lp c (some live) n :: ks) fr h) := by
  simp [onTurn]
attribute [go_sem] List.size_toArray Array.size_empty Option.getD_some Nat.zero_add Nat.add_zero List.length_nil List.length_cons List.length_append List.nil_append List.append_nil List.cons_append List.getElem?_cons_zero List.getElem?_cons_succ List.getElem?_nil List.getElem?_toArray beq_iff_eq List.take_zero List.take_succ_cons List.take_nil List.drop_zero List.drop_succ_cons List.drop_nil List.set_cons_zero List.set_cons_succ List.length_set List.replicate_zero List.replicate_succ List.any_nil Bool.not_false Bool.not_true Bool.and_true Bool.true_and Bool.and_false Bool.false_and Bool.or_true Bool.or_false Bool.true_or Bool.false_or Bool.and_self Bool.false_eq_true if_true if_false ite_true ite_false cond_true cond_false decide_true decide_false decide_eq_true_eq and_self and_true true_and and_false false_and Option.some.injEq AV.bool.injEq Nat.le_refl
end Go.Ab
