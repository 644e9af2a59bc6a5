/- What is proved: facts by program on types and code, for rewriting. What is proved: nothing new; rules for rewriting are gathered. Conditions: none. -/
import Derived.Test.YtaebljhlgbbjnaaGreatDoorMS
import Derived.Test.YtaebljhlgbbjnaaGreatDoorMX3
set_option linter.unusedSimpArgs false
set_option linter.unusedVariables false
namespace Go.Ab
open Go Go.Proofs
set_option maxRecDepth 100000
@[go_sem] theorem K_P:K.P=Tryz.prog:=rfl
@[go_sem] theorem K_bT:K.bT=134:=rfl
@[go_sem] theorem wrT_22:wrOf K (some 22)=true:=rfl
@[go_sem] theorem wrT_26:wrOf K (some 26)=true:=rfl
@[go_sem] theorem wrT_35:wrOf K (some 35)=false:=rfl
@[go_sem] theorem wrT_48:wrOf K (some 48)=true:=rfl
@[go_sem] theorem wrT_49:wrOf K (some 49)=true:=rfl
@[go_sem] theorem wrT_62:wrOf K (some 62)=false:=rfl
@[go_sem] theorem wrT_69:wrOf K (some 69)=false:=rfl
@[go_sem] theorem wrT_87:wrOf K (some 87)=true:=rfl
@[go_sem] theorem wrT_88:wrOf K (some 88)=false:=rfl
@[go_sem] theorem wrT_89:wrOf K (some 89)=false:=rfl
@[go_sem] theorem wrT_117:wrOf K (some 117)=false:=rfl
@[go_sem] theorem wrT_132:wrOf K (some 132)=false:=rfl
@[go_sem] theorem wrT_177:wrOf K (some 177)=false:=rfl
@[go_sem] theorem wrT_178:wrOf K (some 178)=false:=rfl
@[go_sem] theorem wrT_184:wrOf K (some 184)=false:=rfl
@[go_sem] theorem wrT_217:wrOf K (some 217)=false:=rfl
@[go_sem] theorem wrT_219:wrOf K (some 219)=false:=rfl
@[go_sem] theorem wrT_283:wrOf K (some 283)=false:=rfl
@[go_sem] theorem nlT_22:K.nlT 22=false:=rfl
@[go_sem] theorem nlT_26:K.nlT 26=true:=rfl
@[go_sem] theorem nlT_35:K.nlT 35=false:=rfl
@[go_sem] theorem nlT_48:K.nlT 48=true:=rfl
@[go_sem] theorem nlT_49:K.nlT 49=true:=rfl
@[go_sem] theorem nlT_62:K.nlT 62=false:=rfl
@[go_sem] theorem nlT_65:K.nlT 65=false:=rfl
@[go_sem] theorem nlT_69:K.nlT 69=false:=rfl
@[go_sem] theorem nlT_87:K.nlT 87=true:=rfl
@[go_sem] theorem nlT_88:K.nlT 88=true:=rfl
@[go_sem] theorem nlT_89:K.nlT 89=true:=rfl
@[go_sem] theorem nlT_117:K.nlT 117=false:=rfl
@[go_sem] theorem nlT_132:K.nlT 132=false:=rfl
@[go_sem] theorem nlT_165:K.nlT 165=false:=rfl
@[go_sem] theorem nlT_177:K.nlT 177=false:=rfl
@[go_sem] theorem nlT_178:K.nlT 178=false:=rfl
@[go_sem] theorem nlT_184:K.nlT 184=false:=rfl
@[go_sem] theorem nlT_217:K.nlT 217=false:=rfl
@[go_sem] theorem nlT_219:K.nlT 219=false:=rfl
@[go_sem] theorem nlT_262:K.nlT 262=false:=rfl
@[go_sem] theorem nlT_277:K.nlT 277=false:=rfl
@[go_sem] theorem nlT_283:K.nlT 283=false:=rfl
@[go_sem] theorem nlT_458:K.nlT 458=false:=rfl
abbrev CallT (n:Nat) (f:Func):Prop:=∀ (args:List AV) (h:Heap),R K (.call n args h)=R K (.run n h.length [.code (f.body.getD .skip)] (entry 0 args) h)
theorem ret_of {f m k:Nat} {fr:Fr} {h:Heap} {fn:Func} {rs:List ResultVar} (h1:Tryz.prog.funcs[f]? = some fn) (h2:fn.results.toList=rs) (h3:K.ret f=m):retOf K f k fr h=leaving m k h (resL Tryz.prog fr h rs):=by
 unfold retOf
 rw [K_P,h1,←h2,←h3]
@[go_sem] theorem ar_117:ar Tryz.prog 117=none:=rfl
@[go_sem] theorem ar_132:ar Tryz.prog 132=none:=rfl
@[go_sem] theorem ar_165:ar Tryz.prog 165=none:=rfl
@[go_sem] theorem ar_177:ar Tryz.prog 177=none:=rfl
@[go_sem] theorem ar_178:ar Tryz.prog 178=none:=rfl
@[go_sem] theorem ar_184:ar Tryz.prog 184=none:=rfl
@[go_sem] theorem ar_217:ar Tryz.prog 217=none:=rfl
@[go_sem] theorem ar_219:ar Tryz.prog 219=none:=rfl
@[go_sem] theorem ar_22:ar Tryz.prog 22=none:=rfl
@[go_sem] theorem ar_26:ar Tryz.prog 26=none:=rfl
@[go_sem] theorem ar_262:ar Tryz.prog 262=none:=rfl
@[go_sem] theorem ar_277:ar Tryz.prog 277=none:=rfl
@[go_sem] theorem ar_283:ar Tryz.prog 283=none:=rfl
@[go_sem] theorem ar_328:ar Tryz.prog 328=some (6,3,1):=rfl
@[go_sem] theorem ar_35:ar Tryz.prog 35=none:=rfl
@[go_sem] theorem ar_457:ar Tryz.prog 457=some (2,3,1):=rfl
@[go_sem] theorem ar_458:ar Tryz.prog 458=none:=rfl
@[go_sem] theorem ar_48:ar Tryz.prog 48=none:=rfl
@[go_sem] theorem ar_49:ar Tryz.prog 49=none:=rfl
@[go_sem] theorem ar_55:ar Tryz.prog 55=none:=rfl
@[go_sem] theorem ar_62:ar Tryz.prog 62=none:=rfl
@[go_sem] theorem ar_65:ar Tryz.prog 65=none:=rfl
@[go_sem] theorem ar_66:ar Tryz.prog 66=none:=rfl
@[go_sem] theorem ar_69:ar Tryz.prog 69=none:=rfl
@[go_sem] theorem ar_87:ar Tryz.prog 87=none:=rfl
@[go_sem] theorem ar_88:ar Tryz.prog 88=none:=rfl
@[go_sem] theorem ar_89:ar Tryz.prog 89=none:=rfl
@[go_sem] theorem ar_9:ar Tryz.prog 9=none:=rfl
@[go_sem] theorem ck_136:ck Tryz.prog 136=.iface:=by kernel_rfl
@[go_sem] theorem ck_176:ck Tryz.prog 176=.ptr:=by kernel_rfl
@[go_sem] theorem ck_188:ck Tryz.prog 188=.ptr:=by kernel_rfl
@[go_sem] theorem ck_243:ck Tryz.prog 243=.no:=by kernel_rfl
@[go_sem] theorem ck_26:ck Tryz.prog 26=.no:=by kernel_rfl
@[go_sem] theorem ck_273:ck Tryz.prog 273=.ptr:=by kernel_rfl
@[go_sem] theorem ck_3:ck Tryz.prog 3=.no:=by kernel_rfl
@[go_sem] theorem ck_30:ck Tryz.prog 30=.no:=by kernel_rfl
@[go_sem] theorem ck_320:ck Tryz.prog 320=.no:=by kernel_rfl
@[go_sem] theorem ck_346:ck Tryz.prog 346=.no:=by kernel_rfl
@[go_sem] theorem ck_35:ck Tryz.prog 35=.no:=by kernel_rfl
@[go_sem] theorem ck_4:ck Tryz.prog 4=.bool:=by kernel_rfl
@[go_sem] theorem ck_5:ck Tryz.prog 5=.no:=by kernel_rfl
@[go_sem] theorem ck_61:ck Tryz.prog 61=.flat [.int,.int,.str]:=by kernel_rfl
@[go_sem] theorem ck_87:ck Tryz.prog 87=.no:=by kernel_rfl
@[go_sem] theorem ck_88:ck Tryz.prog 88=.no:=by kernel_rfl
@[go_sem] theorem ck_89:ck Tryz.prog 89=.no:=by kernel_rfl
@[go_sem] theorem ck_9:ck Tryz.prog 9=.no:=by kernel_rfl
@[go_sem] theorem ck_97:ck Tryz.prog 97=.flat [.str,.int,.bool,.int,.int,.str]:=by kernel_rfl
@[go_sem] theorem cv_132_9:cvOf Tryz.prog 132 9=.ofBytes:=rfl
@[go_sem] theorem cv_21_9:cvOf Tryz.prog 21 9=.str:=rfl
@[go_sem] theorem cv_243_3:cvOf Tryz.prog 243 3=.int .i64:=rfl
@[go_sem] theorem cv_3_21:cvOf Tryz.prog 3 21=.int .i32:=rfl
@[go_sem] theorem cv_3_243:cvOf Tryz.prog 3 243=.int .u64:=rfl
@[go_sem] theorem cv_3_320:cvOf Tryz.prog 3 320=.int .u64:=rfl
@[go_sem] theorem cv_3_407:cvOf Tryz.prog 3 407=.int .u64:=rfl
@[go_sem] theorem cv_3_5:cvOf Tryz.prog 3 5=.int .u8:=rfl
@[go_sem] theorem cv_320_5:cvOf Tryz.prog 320 5=.int .u8:=rfl
@[go_sem] theorem cv_5_21:cvOf Tryz.prog 5 21=.int .i32:=rfl
@[go_sem] theorem cv_5_3:cvOf Tryz.prog 5 3=.int .i64:=rfl
@[go_sem] theorem cv_9_132:cvOf Tryz.prog 9 132=.bytes:=rfl
@[go_sem] theorem el_132:elT Tryz.prog 132=some (5):=rfl
@[go_sem] theorem es_117:es Tryz.prog 117=some (1,24):=rfl
@[go_sem] theorem es_132:es Tryz.prog 132=some (1,1):=rfl
@[go_sem] theorem es_165:es Tryz.prog 165=some (1,8):=rfl
@[go_sem] theorem es_175:es Tryz.prog 175=none:=rfl
@[go_sem] theorem es_177:es Tryz.prog 177=some (9,128):=rfl
@[go_sem] theorem es_178:es Tryz.prog 178=some (7,80):=rfl
@[go_sem] theorem es_184:es Tryz.prog 184=some (13,192):=rfl
@[go_sem] theorem es_217:es Tryz.prog 217=some (5,64):=rfl
@[go_sem] theorem es_219:es Tryz.prog 219=some (10,144):=rfl
@[go_sem] theorem es_22:es Tryz.prog 22=some (1,8):=rfl
@[go_sem] theorem es_255:es Tryz.prog 255=some (10,192):=rfl
@[go_sem] theorem es_256:es Tryz.prog 256=some (15,200):=rfl
@[go_sem] theorem es_26:es Tryz.prog 26=some (5,112):=rfl
@[go_sem] theorem es_262:es Tryz.prog 262=some (1,1):=rfl
@[go_sem] theorem es_277:es Tryz.prog 277=some (1,24):=rfl
@[go_sem] theorem es_283:es Tryz.prog 283=some (3,40):=rfl
@[go_sem] theorem es_3:es Tryz.prog 3=none:=rfl
@[go_sem] theorem es_328:es Tryz.prog 328=none:=rfl
@[go_sem] theorem es_35:es Tryz.prog 35=some (1,16):=rfl
@[go_sem] theorem es_457:es Tryz.prog 457=none:=rfl
@[go_sem] theorem es_458:es Tryz.prog 458=some (2,16):=rfl
@[go_sem] theorem es_48:es Tryz.prog 48=some (2,40):=rfl
@[go_sem] theorem es_49:es Tryz.prog 49=some (10,136):=rfl
@[go_sem] theorem es_55:es Tryz.prog 55=some (2,40):=rfl
@[go_sem] theorem es_62:es Tryz.prog 62=some (3,32):=rfl
@[go_sem] theorem es_65:es Tryz.prog 65=some (9,120):=rfl
@[go_sem] theorem es_66:es Tryz.prog 66=some (5,56):=rfl
@[go_sem] theorem es_69:es Tryz.prog 69=some (1,24):=rfl
@[go_sem] theorem es_87:es Tryz.prog 87=some (6,64):=rfl
@[go_sem] theorem es_88:es Tryz.prog 88=some (3,56):=rfl
@[go_sem] theorem es_89:es Tryz.prog 89=some (3,48):=rfl
@[go_sem] theorem es_9:es Tryz.prog 9=none:=rfl
@[go_sem] theorem ez_132:elemZero Tryz.prog 132=some (.int .u8 0):=rfl
@[go_sem] theorem ez_55:elemZero Tryz.prog 55=some (.agg [.str [],.nils]):=rfl
@[go_sem] theorem fo_101_0:fo Tryz.prog 101 0=some (0,9):=rfl
@[go_sem] theorem fo_101_1:fo Tryz.prog 101 1=some (1,35):=rfl
@[go_sem] theorem fo_101_2:fo Tryz.prog 101 2=some (2,9):=rfl
@[go_sem] theorem fo_105_0:fo Tryz.prog 105 0=some (0,9):=rfl
@[go_sem] theorem fo_105_1:fo Tryz.prog 105 1=some (1,35):=rfl
@[go_sem] theorem fo_105_2:fo Tryz.prog 105 2=some (2,4):=rfl
@[go_sem] theorem fo_134_1:fo Tryz.prog 134 1=some (1,132):=rfl
@[go_sem] theorem fo_180_0:fo Tryz.prog 180 0=some (0,9):=rfl
@[go_sem] theorem fo_180_1:fo Tryz.prog 180 1=some (1,9):=rfl
@[go_sem] theorem fo_180_2:fo Tryz.prog 180 2=some (2,4):=rfl
@[go_sem] theorem fo_180_3:fo Tryz.prog 180 3=some (3,4):=rfl
@[go_sem] theorem fo_180_4:fo Tryz.prog 180 4=some (4,4):=rfl
@[go_sem] theorem fo_180_5:fo Tryz.prog 180 5=some (5,4):=rfl
@[go_sem] theorem fo_180_6:fo Tryz.prog 180 6=some (6,177):=rfl
@[go_sem] theorem fo_180_7:fo Tryz.prog 180 7=some (7,178):=rfl
@[go_sem] theorem fo_180_8:fo Tryz.prog 180 8=some (8,117):=rfl
@[go_sem] theorem fo_180_9:fo Tryz.prog 180 9=some (9,117):=rfl
@[go_sem] theorem fo_182_0:fo Tryz.prog 182 0=some (0,9):=rfl
@[go_sem] theorem fo_182_1:fo Tryz.prog 182 1=some (1,177):=rfl
@[go_sem] theorem fo_186_0:fo Tryz.prog 186 0=some (0,9):=rfl
@[go_sem] theorem fo_186_1:fo Tryz.prog 186 1=some (1,3):=rfl
@[go_sem] theorem fo_186_2:fo Tryz.prog 186 2=some (2,9):=rfl
@[go_sem] theorem fo_186_3:fo Tryz.prog 186 3=some (3,4):=rfl
@[go_sem] theorem fo_186_4:fo Tryz.prog 186 4=some (4,61):=rfl
@[go_sem] theorem fo_186_5:fo Tryz.prog 186 5=some (7,35):=rfl
@[go_sem] theorem fo_186_6:fo Tryz.prog 186 6=some (8,184):=rfl
@[go_sem] theorem fo_190_0:fo Tryz.prog 190 0=some (0,9):=rfl
@[go_sem] theorem fo_190_1:fo Tryz.prog 190 1=some (1,3):=rfl
@[go_sem] theorem fo_190_2:fo Tryz.prog 190 2=some (2,9):=rfl
@[go_sem] theorem fo_190_3:fo Tryz.prog 190 3=some (3,9):=rfl
@[go_sem] theorem fo_190_4:fo Tryz.prog 190 4=some (4,4):=rfl
@[go_sem] theorem fo_190_5:fo Tryz.prog 190 5=some (5,3):=rfl
@[go_sem] theorem fo_190_6:fo Tryz.prog 190 6=some (6,4):=rfl
@[go_sem] theorem fo_196_0:fo Tryz.prog 196 0=some (0,51):=rfl
@[go_sem] theorem fo_216_0:fo Tryz.prog 216 0=some (0,51):=rfl
@[go_sem] theorem fo_216_1:fo Tryz.prog 216 1=some (2,68):=rfl
@[go_sem] theorem fo_216_2:fo Tryz.prog 216 2=some (4,212):=rfl
@[go_sem] theorem fo_216_3:fo Tryz.prog 216 3=some (5,213):=rfl
@[go_sem] theorem fo_216_4:fo Tryz.prog 216 4=some (6,214):=rfl
@[go_sem] theorem fo_222_0:fo Tryz.prog 222 0=some (0,9):=rfl
@[go_sem] theorem fo_222_1:fo Tryz.prog 222 1=some (1,186):=rfl
@[go_sem] theorem fo_226_0:fo Tryz.prog 226 0=some (0,9):=rfl
@[go_sem] theorem fo_226_1:fo Tryz.prog 226 1=some (1,9):=rfl
@[go_sem] theorem fo_226_2:fo Tryz.prog 226 2=some (2,3):=rfl
@[go_sem] theorem fo_226_3:fo Tryz.prog 226 3=some (3,3):=rfl
@[go_sem] theorem fo_226_4:fo Tryz.prog 226 4=some (4,3):=rfl
@[go_sem] theorem fo_25_0:fo Tryz.prog 25 0=some (0,22):=rfl
@[go_sem] theorem fo_25_1:fo Tryz.prog 25 1=some (1,3):=rfl
@[go_sem] theorem fo_258_0:fo Tryz.prog 258 0=some (0,3):=rfl
@[go_sem] theorem fo_258_1:fo Tryz.prog 258 1=some (1,3):=rfl
@[go_sem] theorem fo_258_10:fo Tryz.prog 258 10=some (12,256):=rfl
@[go_sem] theorem fo_258_2:fo Tryz.prog 258 2=some (2,3):=rfl
@[go_sem] theorem fo_258_3:fo Tryz.prog 258 3=some (3,61):=rfl
@[go_sem] theorem fo_258_4:fo Tryz.prog 258 4=some (6,9):=rfl
@[go_sem] theorem fo_258_5:fo Tryz.prog 258 5=some (7,9):=rfl
@[go_sem] theorem fo_258_6:fo Tryz.prog 258 6=some (8,4):=rfl
@[go_sem] theorem fo_258_7:fo Tryz.prog 258 7=some (9,184):=rfl
@[go_sem] theorem fo_258_8:fo Tryz.prog 258 8=some (10,255):=rfl
@[go_sem] theorem fo_258_9:fo Tryz.prog 258 9=some (11,184):=rfl
@[go_sem] theorem fo_28_0:fo Tryz.prog 28 0=some (0,26):=rfl
@[go_sem] theorem fo_302_0:fo Tryz.prog 302 0=some (0,9):=rfl
@[go_sem] theorem fo_302_1:fo Tryz.prog 302 1=some (1,9):=rfl
@[go_sem] theorem fo_302_2:fo Tryz.prog 302 2=some (2,3):=rfl
@[go_sem] theorem fo_302_3:fo Tryz.prog 302 3=some (3,9):=rfl
@[go_sem] theorem fo_302_4:fo Tryz.prog 302 4=some (4,4):=rfl
@[go_sem] theorem fo_340_0:fo Tryz.prog 340 0=some (0,283):=rfl
@[go_sem] theorem fo_340_1:fo Tryz.prog 340 1=some (1,22):=rfl
@[go_sem] theorem fo_343_0:fo Tryz.prog 343 0=some (0,9):=rfl
@[go_sem] theorem fo_343_1:fo Tryz.prog 343 1=some (1,9):=rfl
@[go_sem] theorem fo_343_2:fo Tryz.prog 343 2=some (2,3):=rfl
@[go_sem] theorem fo_395_0:fo Tryz.prog 395 0=some (0,9):=rfl
@[go_sem] theorem fo_395_1:fo Tryz.prog 395 1=some (1,4):=rfl
@[go_sem] theorem fo_395_2:fo Tryz.prog 395 2=some (2,4):=rfl
@[go_sem] theorem fo_51_0:fo Tryz.prog 51 0=some (0,48):=rfl
@[go_sem] theorem fo_51_1:fo Tryz.prog 51 1=some (1,49):=rfl
@[go_sem] theorem fo_57_0:fo Tryz.prog 57 0=some (0,55):=rfl
@[go_sem] theorem fo_61_0:fo Tryz.prog 61 0=some (0,3):=rfl
@[go_sem] theorem fo_61_1:fo Tryz.prog 61 1=some (1,3):=rfl
@[go_sem] theorem fo_61_2:fo Tryz.prog 61 2=some (2,9):=rfl
@[go_sem] theorem fo_64_0:fo Tryz.prog 64 0=some (0,9):=rfl
@[go_sem] theorem fo_64_1:fo Tryz.prog 64 1=some (1,3):=rfl
@[go_sem] theorem fo_64_2:fo Tryz.prog 64 2=some (2,3):=rfl
@[go_sem] theorem fo_64_3:fo Tryz.prog 64 3=some (3,3):=rfl
@[go_sem] theorem fo_64_4:fo Tryz.prog 64 4=some (4,61):=rfl
@[go_sem] theorem fo_64_5:fo Tryz.prog 64 5=some (7,62):=rfl
@[go_sem] theorem fo_64_6:fo Tryz.prog 64 6=some (8,22):=rfl
@[go_sem] theorem fo_68_0:fo Tryz.prog 68 0=some (0,65):=rfl
@[go_sem] theorem fo_68_1:fo Tryz.prog 68 1=some (1,66):=rfl
@[go_sem] theorem fo_71_0:fo Tryz.prog 71 0=some (0,9):=rfl
@[go_sem] theorem fo_71_1:fo Tryz.prog 71 1=some (1,69):=rfl
@[go_sem] theorem fo_77_0:fo Tryz.prog 77 0=some (0,4):=rfl
@[go_sem] theorem fo_83_0:fo Tryz.prog 83 0=some (0,4):=rfl
@[go_sem] theorem fo_91_0:fo Tryz.prog 91 0=some (0,9):=rfl
@[go_sem] theorem fo_91_1:fo Tryz.prog 91 1=some (1,87):=rfl
@[go_sem] theorem fo_91_2:fo Tryz.prog 91 2=some (2,35):=rfl
@[go_sem] theorem fo_91_3:fo Tryz.prog 91 3=some (3,88):=rfl
@[go_sem] theorem fo_91_4:fo Tryz.prog 91 4=some (4,89):=rfl
@[go_sem] theorem fo_97_0:fo Tryz.prog 97 0=some (0,9):=rfl
@[go_sem] theorem fo_97_1:fo Tryz.prog 97 1=some (1,3):=rfl
@[go_sem] theorem fo_97_2:fo Tryz.prog 97 2=some (2,4):=rfl
@[go_sem] theorem fo_97_3:fo Tryz.prog 97 3=some (3,61):=rfl
@[go_sem] theorem if_9 (x:AV):ifaceV Tryz.prog 9 x=some (.iface 9 x):=rfl
@[go_sem] theorem isl_136:isSl Tryz.prog 136=false:=rfl
@[go_sem] theorem isl_176:isSl Tryz.prog 176=false:=rfl
@[go_sem] theorem isl_188:isSl Tryz.prog 188=false:=rfl
@[go_sem] theorem isl_243:isSl Tryz.prog 243=false:=rfl
@[go_sem] theorem isl_26:isSl Tryz.prog 26=true:=rfl
@[go_sem] theorem isl_273:isSl Tryz.prog 273=false:=rfl
@[go_sem] theorem isl_3:isSl Tryz.prog 3=false:=rfl
@[go_sem] theorem isl_30:isSl Tryz.prog 30=false:=rfl
@[go_sem] theorem isl_320:isSl Tryz.prog 320=false:=rfl
@[go_sem] theorem isl_346:isSl Tryz.prog 346=false:=rfl
@[go_sem] theorem isl_35:isSl Tryz.prog 35=true:=rfl
@[go_sem] theorem isl_4:isSl Tryz.prog 4=false:=rfl
@[go_sem] theorem isl_5:isSl Tryz.prog 5=false:=rfl
@[go_sem] theorem isl_61:isSl Tryz.prog 61=false:=rfl
@[go_sem] theorem isl_87:isSl Tryz.prog 87=true:=rfl
@[go_sem] theorem isl_88:isSl Tryz.prog 88=true:=rfl
@[go_sem] theorem isl_89:isSl Tryz.prog 89=true:=rfl
@[go_sem] theorem isl_9:isSl Tryz.prog 9=false:=rfl
@[go_sem] theorem isl_97:isSl Tryz.prog 97=false:=rfl
@[go_sem] theorem kk_212:kkOf Tryz.prog 212=some (.str,217):=rfl
@[go_sem] theorem kk_213:kkOf Tryz.prog 213=some (.str,35):=rfl
@[go_sem] theorem kk_214:kkOf Tryz.prog 214=some (.arr 3,9):=rfl
@[go_sem] theorem kk_305:kkOf Tryz.prog 305=some (.str,61):=rfl
@[go_sem] theorem kk_417:kkOf Tryz.prog 417=some (.str,4):=rfl
@[go_sem] theorem plc_101:plc Tryz.prog 101=some (.fields [(0,1),(1,1),(2,1)]):=rfl
@[go_sem] theorem plc_105:plc Tryz.prog 105=some (.fields [(0,1),(1,1),(2,1)]):=rfl
@[go_sem] theorem plc_180:plc Tryz.prog 180=some (.fields [(0,1),(1,1),(2,1),(3,1),(4,1),(5,1),(6,1),(7,1),(8,1),(9,1)]):=rfl
@[go_sem] theorem plc_182:plc Tryz.prog 182=some (.fields [(0,1),(1,1)]):=rfl
@[go_sem] theorem plc_186:plc Tryz.prog 186=some (.fields [(0,1),(1,1),(2,1),(3,1),(4,3),(7,1),(8,1)]):=rfl
@[go_sem] theorem plc_190:plc Tryz.prog 190=some (.fields [(0,1),(1,1),(2,1),(3,1),(4,1),(5,1),(6,1)]):=rfl
@[go_sem] theorem plc_196:plc Tryz.prog 196=some (.fields [(0,2)]):=rfl
@[go_sem] theorem plc_216:plc Tryz.prog 216=some (.fields [(0,2),(2,2),(4,1),(5,1),(6,1)]):=rfl
@[go_sem] theorem plc_222:plc Tryz.prog 222=some (.fields [(0,1),(1,9)]):=rfl
@[go_sem] theorem plc_25:plc Tryz.prog 25=some (.fields [(0,1),(1,1)]):=rfl
@[go_sem] theorem plc_258:plc Tryz.prog 258=some (.fields [(0,1),(1,1),(2,1),(3,3),(6,1),(7,1),(8,1),(9,1),(10,1),(11,1),(12,1)]):=rfl
@[go_sem] theorem plc_28:plc Tryz.prog 28=some (.fields [(0,1)]):=rfl
@[go_sem] theorem plc_302:plc Tryz.prog 302=some (.fields [(0,1),(1,1),(2,1),(3,1),(4,1)]):=rfl
@[go_sem] theorem plc_328:plc Tryz.prog 328=some (.elems 1):=rfl
@[go_sem] theorem plc_340:plc Tryz.prog 340=some (.fields [(0,1),(1,1)]):=rfl
@[go_sem] theorem plc_343:plc Tryz.prog 343=some (.fields [(0,1),(1,1),(2,1)]):=rfl
@[go_sem] theorem plc_371:plc Tryz.prog 371=some (.elems 1):=rfl
@[go_sem] theorem plc_395:plc Tryz.prog 395=some (.fields [(0,1),(1,1),(2,1)]):=rfl
@[go_sem] theorem plc_457:plc Tryz.prog 457=some (.elems 1):=rfl
@[go_sem] theorem plc_51:plc Tryz.prog 51=some (.fields [(0,1),(1,1)]):=rfl
@[go_sem] theorem plc_57:plc Tryz.prog 57=some (.fields [(0,1)]):=rfl
@[go_sem] theorem plc_61:plc Tryz.prog 61=some (.fields [(0,1),(1,1),(2,1)]):=rfl
@[go_sem] theorem plc_64:plc Tryz.prog 64=some (.fields [(0,1),(1,1),(2,1),(3,1),(4,3),(7,1),(8,1)]):=rfl
@[go_sem] theorem plc_68:plc Tryz.prog 68=some (.fields [(0,1),(1,1)]):=rfl
@[go_sem] theorem plc_77:plc Tryz.prog 77=some (.fields [(0,1)]):=rfl
@[go_sem] theorem plc_83:plc Tryz.prog 83=some (.fields [(0,1)]):=rfl
@[go_sem] theorem plc_91:plc Tryz.prog 91=some (.fields [(0,1),(1,1),(2,1),(3,1),(4,1)]):=rfl
@[go_sem] theorem plc_97:plc Tryz.prog 97=some (.fields [(0,1),(1,1),(2,1),(3,3)]):=rfl
@[go_sem] theorem sh_101:sh Tryz.prog 101=some (.agg 3):=rfl
@[go_sem] theorem sh_105:sh Tryz.prog 105=some (.agg 3):=rfl
@[go_sem] theorem sh_117:sh Tryz.prog 117=some .one:=rfl
@[go_sem] theorem sh_124:sh Tryz.prog 124=some .one:=rfl
@[go_sem] theorem sh_132:sh Tryz.prog 132=some .one:=rfl
@[go_sem] theorem sh_147:sh Tryz.prog 147=some .one:=rfl
@[go_sem] theorem sh_168:sh Tryz.prog 168=some .one:=rfl
@[go_sem] theorem sh_176:sh Tryz.prog 176=some .one:=rfl
@[go_sem] theorem sh_177:sh Tryz.prog 177=some .one:=rfl
@[go_sem] theorem sh_178:sh Tryz.prog 178=some .one:=rfl
@[go_sem] theorem sh_180:sh Tryz.prog 180=some (.agg 10):=rfl
@[go_sem] theorem sh_182:sh Tryz.prog 182=some (.agg 2):=rfl
@[go_sem] theorem sh_184:sh Tryz.prog 184=some .one:=rfl
@[go_sem] theorem sh_186:sh Tryz.prog 186=some (.agg 9):=rfl
@[go_sem] theorem sh_190:sh Tryz.prog 190=some (.agg 7):=rfl
@[go_sem] theorem sh_196:sh Tryz.prog 196=some (.agg 2):=rfl
@[go_sem] theorem sh_212:sh Tryz.prog 212=some .one:=rfl
@[go_sem] theorem sh_213:sh Tryz.prog 213=some .one:=rfl
@[go_sem] theorem sh_214:sh Tryz.prog 214=some .one:=rfl
@[go_sem] theorem sh_217:sh Tryz.prog 217=some .one:=rfl
@[go_sem] theorem sh_22:sh Tryz.prog 22=some .one:=rfl
@[go_sem] theorem sh_222:sh Tryz.prog 222=some (.agg 10):=rfl
@[go_sem] theorem sh_226:sh Tryz.prog 226=some (.agg 5):=rfl
@[go_sem] theorem sh_247:sh Tryz.prog 247=some .one:=rfl
@[go_sem] theorem sh_255:sh Tryz.prog 255=some .one:=rfl
@[go_sem] theorem sh_256:sh Tryz.prog 256=some .one:=rfl
@[go_sem] theorem sh_258:sh Tryz.prog 258=some (.agg 13):=rfl
@[go_sem] theorem sh_26:sh Tryz.prog 26=some .one:=rfl
@[go_sem] theorem sh_28:sh Tryz.prog 28=some (.agg 1):=rfl
@[go_sem] theorem sh_283:sh Tryz.prog 283=some .one:=rfl
@[go_sem] theorem sh_3:sh Tryz.prog 3=some .one:=rfl
@[go_sem] theorem sh_302:sh Tryz.prog 302=some (.agg 5):=rfl
@[go_sem] theorem sh_328:sh Tryz.prog 328=some (.agg 6):=rfl
@[go_sem] theorem sh_340:sh Tryz.prog 340=some (.agg 2):=rfl
@[go_sem] theorem sh_343:sh Tryz.prog 343=some (.agg 3):=rfl
@[go_sem] theorem sh_35:sh Tryz.prog 35=some .one:=rfl
@[go_sem] theorem sh_4:sh Tryz.prog 4=some .one:=rfl
@[go_sem] theorem sh_417:sh Tryz.prog 417=some .one:=rfl
@[go_sem] theorem sh_457:sh Tryz.prog 457=some (.agg 2):=rfl
@[go_sem] theorem sh_48:sh Tryz.prog 48=some .one:=rfl
@[go_sem] theorem sh_49:sh Tryz.prog 49=some .one:=rfl
@[go_sem] theorem sh_5:sh Tryz.prog 5=some .one:=rfl
@[go_sem] theorem sh_51:sh Tryz.prog 51=some (.agg 2):=rfl
@[go_sem] theorem sh_55:sh Tryz.prog 55=some .one:=rfl
@[go_sem] theorem sh_57:sh Tryz.prog 57=some (.agg 1):=rfl
@[go_sem] theorem sh_61:sh Tryz.prog 61=some (.agg 3):=rfl
@[go_sem] theorem sh_62:sh Tryz.prog 62=some .one:=rfl
@[go_sem] theorem sh_64:sh Tryz.prog 64=some (.agg 9):=rfl
@[go_sem] theorem sh_65:sh Tryz.prog 65=some .one:=rfl
@[go_sem] theorem sh_66:sh Tryz.prog 66=some .one:=rfl
@[go_sem] theorem sh_68:sh Tryz.prog 68=some (.agg 2):=rfl
@[go_sem] theorem sh_69:sh Tryz.prog 69=some .one:=rfl
@[go_sem] theorem sh_71:sh Tryz.prog 71=some (.agg 2):=rfl
@[go_sem] theorem sh_87:sh Tryz.prog 87=some .one:=rfl
@[go_sem] theorem sh_88:sh Tryz.prog 88=some .one:=rfl
@[go_sem] theorem sh_89:sh Tryz.prog 89=some .one:=rfl
@[go_sem] theorem sh_9:sh Tryz.prog 9=some .one:=rfl
@[go_sem] theorem sh_91:sh Tryz.prog 91=some (.agg 5):=rfl
@[go_sem] theorem sh_93:sh Tryz.prog 93=some .one:=rfl
@[go_sem] theorem sh_97:sh Tryz.prog 97=some (.agg 6):=rfl
@[go_sem] theorem sz_101:szOf Tryz.prog 101=some (3):=rfl
@[go_sem] theorem sz_105:szOf Tryz.prog 105=some (3):=rfl
@[go_sem] theorem sz_117:szOf Tryz.prog 117=some (1):=rfl
@[go_sem] theorem sz_132:szOf Tryz.prog 132=some (1):=rfl
@[go_sem] theorem sz_176:szOf Tryz.prog 176=some (1):=rfl
@[go_sem] theorem sz_177:szOf Tryz.prog 177=some (1):=rfl
@[go_sem] theorem sz_178:szOf Tryz.prog 178=some (1):=rfl
@[go_sem] theorem sz_180:szOf Tryz.prog 180=some (10):=rfl
@[go_sem] theorem sz_182:szOf Tryz.prog 182=some (2):=rfl
@[go_sem] theorem sz_184:szOf Tryz.prog 184=some (1):=rfl
@[go_sem] theorem sz_186:szOf Tryz.prog 186=some (9):=rfl
@[go_sem] theorem sz_190:szOf Tryz.prog 190=some (7):=rfl
@[go_sem] theorem sz_196:szOf Tryz.prog 196=some (2):=rfl
@[go_sem] theorem sz_217:szOf Tryz.prog 217=some (1):=rfl
@[go_sem] theorem sz_222:szOf Tryz.prog 222=some (10):=rfl
@[go_sem] theorem sz_226:szOf Tryz.prog 226=some (5):=rfl
@[go_sem] theorem sz_247:szOf Tryz.prog 247=some (1):=rfl
@[go_sem] theorem sz_258:szOf Tryz.prog 258=some (13):=rfl
@[go_sem] theorem sz_26:szOf Tryz.prog 26=some (1):=rfl
@[go_sem] theorem sz_28:szOf Tryz.prog 28=some (1):=rfl
@[go_sem] theorem sz_3:szOf Tryz.prog 3=some (1):=rfl
@[go_sem] theorem sz_302:szOf Tryz.prog 302=some (5):=rfl
@[go_sem] theorem sz_328:szOf Tryz.prog 328=some (6):=rfl
@[go_sem] theorem sz_343:szOf Tryz.prog 343=some (3):=rfl
@[go_sem] theorem sz_35:szOf Tryz.prog 35=some (1):=rfl
@[go_sem] theorem sz_4:szOf Tryz.prog 4=some (1):=rfl
@[go_sem] theorem sz_407:szOf Tryz.prog 407=some (1):=rfl
@[go_sem] theorem sz_417:szOf Tryz.prog 417=some (1):=rfl
@[go_sem] theorem sz_457:szOf Tryz.prog 457=some (2):=rfl
@[go_sem] theorem sz_48:szOf Tryz.prog 48=some (1):=rfl
@[go_sem] theorem sz_49:szOf Tryz.prog 49=some (1):=rfl
@[go_sem] theorem sz_51:szOf Tryz.prog 51=some (2):=rfl
@[go_sem] theorem sz_57:szOf Tryz.prog 57=some (1):=rfl
@[go_sem] theorem sz_61:szOf Tryz.prog 61=some (3):=rfl
@[go_sem] theorem sz_62:szOf Tryz.prog 62=some (1):=rfl
@[go_sem] theorem sz_64:szOf Tryz.prog 64=some (9):=rfl
@[go_sem] theorem sz_69:szOf Tryz.prog 69=some (1):=rfl
@[go_sem] theorem sz_87:szOf Tryz.prog 87=some (1):=rfl
@[go_sem] theorem sz_88:szOf Tryz.prog 88=some (1):=rfl
@[go_sem] theorem sz_89:szOf Tryz.prog 89=some (1):=rfl
@[go_sem] theorem sz_9:szOf Tryz.prog 9=some (1):=rfl
@[go_sem] theorem sz_91:szOf Tryz.prog 91=some (5):=rfl
@[go_sem] theorem sz_97:szOf Tryz.prog 97=some (6):=rfl
@[go_sem] theorem tk_117:tk Tryz.prog 117=.slice 1 24:=rfl
@[go_sem] theorem tk_132:tk Tryz.prog 132=.slice 1 1:=rfl
@[go_sem] theorem tk_165:tk Tryz.prog 165=.slice 1 8:=rfl
@[go_sem] theorem tk_175:tk Tryz.prog 175=.other:=rfl
@[go_sem] theorem tk_177:tk Tryz.prog 177=.slice 9 128:=rfl
@[go_sem] theorem tk_178:tk Tryz.prog 178=.slice 7 80:=rfl
@[go_sem] theorem tk_184:tk Tryz.prog 184=.slice 13 192:=rfl
@[go_sem] theorem tk_217:tk Tryz.prog 217=.slice 5 64:=rfl
@[go_sem] theorem tk_219:tk Tryz.prog 219=.slice 10 144:=rfl
@[go_sem] theorem tk_22:tk Tryz.prog 22=.slice 1 8:=rfl
@[go_sem] theorem tk_255:tk Tryz.prog 255=.slice 10 192:=rfl
@[go_sem] theorem tk_256:tk Tryz.prog 256=.slice 15 200:=rfl
@[go_sem] theorem tk_26:tk Tryz.prog 26=.slice 5 112:=rfl
@[go_sem] theorem tk_262:tk Tryz.prog 262=.slice 1 1:=rfl
@[go_sem] theorem tk_277:tk Tryz.prog 277=.slice 1 24:=rfl
@[go_sem] theorem tk_283:tk Tryz.prog 283=.slice 3 40:=rfl
@[go_sem] theorem tk_3:tk Tryz.prog 3=.other:=rfl
@[go_sem] theorem tk_328:tk Tryz.prog 328=.arr 6:=rfl
@[go_sem] theorem tk_35:tk Tryz.prog 35=.slice 1 16:=rfl
@[go_sem] theorem tk_458:tk Tryz.prog 458=.slice 2 16:=rfl
@[go_sem] theorem tk_48:tk Tryz.prog 48=.slice 2 40:=rfl
@[go_sem] theorem tk_49:tk Tryz.prog 49=.slice 10 136:=rfl
@[go_sem] theorem tk_55:tk Tryz.prog 55=.slice 2 40:=rfl
@[go_sem] theorem tk_62:tk Tryz.prog 62=.slice 3 32:=rfl
@[go_sem] theorem tk_65:tk Tryz.prog 65=.slice 9 120:=rfl
@[go_sem] theorem tk_66:tk Tryz.prog 66=.slice 5 56:=rfl
@[go_sem] theorem tk_69:tk Tryz.prog 69=.slice 1 24:=rfl
@[go_sem] theorem tk_87:tk Tryz.prog 87=.slice 6 64:=rfl
@[go_sem] theorem tk_88:tk Tryz.prog 88=.slice 3 56:=rfl
@[go_sem] theorem tk_89:tk Tryz.prog 89=.slice 3 48:=rfl
@[go_sem] theorem tk_9:tk Tryz.prog 9=.str:=rfl
@[go_sem] theorem zv_101:zv Tryz.prog 101=some (.agg [.str [],.nils,.str []]):=rfl
@[go_sem] theorem zv_105:zv Tryz.prog 105=some (.agg [.str [],.nils,.bool false]):=rfl
@[go_sem] theorem zv_117:zv Tryz.prog 117=some (.nils):=rfl
@[go_sem] theorem zv_134:zv Tryz.prog 134=some (.agg [.nilp,.nils]):=rfl
@[go_sem] theorem zv_176:zv Tryz.prog 176=some (.nilp):=rfl
@[go_sem] theorem zv_180:zv Tryz.prog 180=some (.agg [.str [],.str [],.bool false,.bool false,.bool false,.bool false,.nils,.nils,.nils,.nils]):=rfl
@[go_sem] theorem zv_182:zv Tryz.prog 182=some (.agg [.str [],.nils]):=rfl
@[go_sem] theorem zv_186:zv Tryz.prog 186=some (.agg [.str [],.int .i64 0,.str [],.bool false,.int .i64 0,.int .i64 0,.str [],.nils,.nils]):=rfl
@[go_sem] theorem zv_190:zv Tryz.prog 190=some (.agg [.str [],.int .i64 0,.str [],.str [],.bool false,.int .i64 0,.bool false]):=rfl
@[go_sem] theorem zv_196:zv Tryz.prog 196=some (.agg [.nils,.nils]):=rfl
@[go_sem] theorem zv_216:zv Tryz.prog 216=some (.agg [.nils,.nils,.nils,.nils,.nilm,.nilm,.nilm]):=rfl
@[go_sem] theorem zv_217:zv Tryz.prog 217=some (.nils):=rfl
@[go_sem] theorem zv_222:zv Tryz.prog 222=some (.agg [.str [],.str [],.int .i64 0,.str [],.bool false,.int .i64 0,.int .i64 0,.str [],.nils,.nils]):=rfl
@[go_sem] theorem zv_226:zv Tryz.prog 226=some (.agg [.str [],.str [],.int .i64 0,.int .i64 0,.int .i64 0]):=rfl
@[go_sem] theorem zv_247:zv Tryz.prog 247=some (.nilf):=rfl
@[go_sem] theorem zv_25:zv Tryz.prog 25=some (.agg [.nils,.int .i64 0]):=rfl
@[go_sem] theorem zv_258:zv Tryz.prog 258=some (.agg [.int .i64 0,.int .i64 0,.int .i64 0,.int .i64 0,.int .i64 0,.str [],.str [],.str [],.bool false,.nils,.nils,.nils,.nils]):=rfl
@[go_sem] theorem zv_28:zv Tryz.prog 28=some (.agg [.nils]):=rfl
@[go_sem] theorem zv_3:zv Tryz.prog 3=some (.int .i64 0):=rfl
@[go_sem] theorem zv_302:zv Tryz.prog 302=some (.agg [.str [],.str [],.int .i64 0,.str [],.bool false]):=rfl
@[go_sem] theorem zv_328:zv Tryz.prog 328=some (.agg [.int .i64 0,.int .i64 0,.int .i64 0,.int .i64 0,.int .i64 0,.int .i64 0]):=rfl
@[go_sem] theorem zv_340:zv Tryz.prog 340=some (.agg [.nils,.nils]):=rfl
@[go_sem] theorem zv_343:zv Tryz.prog 343=some (.agg [.str [],.str [],.int .i64 0]):=rfl
@[go_sem] theorem zv_35:zv Tryz.prog 35=some (.nils):=rfl
@[go_sem] theorem zv_371:zv Tryz.prog 371=some (.agg [.int .i64 0,.int .i64 0,.int .i64 0]):=rfl
@[go_sem] theorem zv_395:zv Tryz.prog 395=some (.agg [.str [],.bool false,.bool false]):=rfl
@[go_sem] theorem zv_4:zv Tryz.prog 4=some (.bool false):=rfl
@[go_sem] theorem zv_407:zv Tryz.prog 407=some (.int .u64 0):=rfl
@[go_sem] theorem zv_417:zv Tryz.prog 417=some (.nilm):=rfl
@[go_sem] theorem zv_457:zv Tryz.prog 457=some (.agg [.int .i64 0,.int .i64 0]):=rfl
@[go_sem] theorem zv_51:zv Tryz.prog 51=some (.agg [.nils,.nils]):=rfl
@[go_sem] theorem zv_57:zv Tryz.prog 57=some (.agg [.nils]):=rfl
@[go_sem] theorem zv_61:zv Tryz.prog 61=some (.agg [.int .i64 0,.int .i64 0,.str []]):=rfl
@[go_sem] theorem zv_64:zv Tryz.prog 64=some (.agg [.str [],.int .i64 0,.int .i64 0,.int .i64 0,.int .i64 0,.int .i64 0,.str [],.nils,.nils]):=rfl
@[go_sem] theorem zv_68:zv Tryz.prog 68=some (.agg [.nils,.nils]):=rfl
@[go_sem] theorem zv_77:zv Tryz.prog 77=some (.agg [.bool false]):=rfl
@[go_sem] theorem zv_83:zv Tryz.prog 83=some (.agg [.bool false]):=rfl
@[go_sem] theorem zv_9:zv Tryz.prog 9=some (.str []):=rfl
@[go_sem] theorem zv_91:zv Tryz.prog 91=some (.agg [.str [],.nils,.nils,.nils,.nils]):=rfl
@[go_sem] theorem zv_97:zv Tryz.prog 97=some (.agg [.str [],.int .i64 0,.bool false,.int .i64 0,.int .i64 0,.str []]):=rfl
@[go_sem] theorem live_3_0:K.live 3 0=some ([3,7,41,42],[],[]):=rfl
@[go_sem] theorem out_3_0:K.out 3 0=some [7]:=rfl
@[go_sem] theorem live_3_1:K.live 3 1=none:=rfl
@[go_sem] theorem out_3_1:K.out 3 1=none:=rfl
@[go_sem] theorem live_4_0:K.live 4 0=some ([0,2,3,8,9],[],[]):=rfl
@[go_sem] theorem out_4_0:K.out 4 0=some [2,3]:=rfl
@[go_sem] theorem live_4_1:K.live 4 1=none:=rfl
@[go_sem] theorem out_4_1:K.out 4 1=none:=rfl
@[go_sem] theorem live_9_0:K.live 9 0=none:=rfl
@[go_sem] theorem out_9_0:K.out 9 0=none:=rfl
@[go_sem] theorem dyn_9_7:K.dyn 9 7=[]:=rfl
@[go_sem] theorem dyn_9_9:K.dyn 9 9=[]:=rfl
@[go_sem] theorem dyn_9_10:K.dyn 9 10=[]:=rfl
@[go_sem] theorem dyn_10_4:K.dyn 10 4=[]:=rfl
@[go_sem] theorem dyn_10_5:K.dyn 10 5=[]:=rfl
@[go_sem] theorem live_11_0:K.live 11 0=some ([0,2,6,7,8,25,26,27],[(7,some 0,5,true)],[]):=rfl
@[go_sem] theorem out_11_0:K.out 11 0=some [0,2,6,7,8]:=rfl
@[go_sem] theorem live_11_1:K.live 11 1=none:=rfl
@[go_sem] theorem out_11_1:K.out 11 1=none:=rfl
@[go_sem] theorem live_12_0:K.live 12 0=some ([0,2,4,5,32,33,34],[(4,some 0,5,true)],[]):=rfl
@[go_sem] theorem out_12_0:K.out 12 0=some [0,2,4,5]:=rfl
@[go_sem] theorem live_12_1:K.live 12 1=none:=rfl
@[go_sem] theorem out_12_1:K.out 12 1=none:=rfl
@[go_sem] theorem live_12_2:K.live 12 2=none:=rfl
@[go_sem] theorem out_12_2:K.out 12 2=none:=rfl
@[go_sem] theorem dyn_12_16:K.dyn 12 16=[(4,63)]:=rfl
@[go_sem] theorem live_14_0:K.live 14 0=some ([0,2,3,16,17],[(3,some 0,5,false)],[]):=rfl
@[go_sem] theorem out_14_0:K.out 14 0=some [0,2,3]:=rfl
@[go_sem] theorem live_14_1:K.live 14 1=none:=rfl
@[go_sem] theorem out_14_1:K.out 14 1=none:=rfl
@[go_sem] theorem live_14_2:K.live 14 2=some ([0,2,3,34,35],[],[]):=rfl
@[go_sem] theorem out_14_2:K.out 14 2=some [2,3]:=rfl
@[go_sem] theorem live_14_3:K.live 14 3=none:=rfl
@[go_sem] theorem out_14_3:K.out 14 3=none:=rfl
@[go_sem] theorem live_14_4:K.live 14 4=some ([0,2,3,5,6,7,34,35,67,68,69],[(7,some 1,1,false)],[]):=rfl
@[go_sem] theorem out_14_4:K.out 14 4=some [0,2,3,5,7,34,35]:=rfl
@[go_sem] theorem live_14_5:K.live 14 5=none:=rfl
@[go_sem] theorem out_14_5:K.out 14 5=none:=rfl
@[go_sem] theorem live_14_6:K.live 14 6=some ([0,2,3,5,6,7,10,34,35,67,68,69,85,86,87],[],[]):=rfl
@[go_sem] theorem out_14_6:K.out 14 6=some [0,2,3,5,6,7,34,35,67,68,69]:=rfl
@[go_sem] theorem live_14_7:K.live 14 7=none:=rfl
@[go_sem] theorem out_14_7:K.out 14 7=none:=rfl
@[go_sem] theorem dyn_14_5:K.dyn 14 5=[(8,20)]:=rfl
@[go_sem] theorem dyn_14_9:K.dyn 14 9=[(6,37),(6,45),(6,48),(14,37),(14,38),(14,45)]:=rfl
@[go_sem] theorem dyn_14_10:K.dyn 14 10=[]:=rfl
@[go_sem] theorem dyn_14_14:K.dyn 14 14=[(5,73)]:=rfl
@[go_sem] theorem dyn_14_24:K.dyn 14 24=[]:=rfl
@[go_sem] theorem dyn_14_25:K.dyn 14 25=[(7,132),(7,7),(7,140),(10,132)]:=rfl
@[go_sem] theorem live_15_0:K.live 15 0=none:=rfl
@[go_sem] theorem out_15_0:K.out 15 0=none:=rfl
@[go_sem] theorem dyn_15_4:K.dyn 15 4=[(6,15)]:=rfl
@[go_sem] theorem dyn_15_7:K.dyn 15 7=[(10,35),(12,35)]:=rfl
@[go_sem] theorem dyn_15_13:K.dyn 15 13=[(10,75),(12,75)]:=rfl
@[go_sem] theorem dyn_15_15:K.dyn 15 15=[(10,92),(13,92)]:=rfl
@[go_sem] theorem dyn_15_19:K.dyn 15 19=[(5,129),(5,130),(5,131),(8,129),(8,130),(8,131),(16,124),(16,127),(16,129),(16,130),(16,131)]:=rfl
@[go_sem] theorem dyn_15_21:K.dyn 15 21=[(5,160),(5,161),(8,160),(8,161),(13,150),(13,153),(13,160),(13,161),(20,150),(20,153),(20,155),(20,158),(20,160),(20,161)]:=rfl
@[go_sem] theorem live_17_0:K.live 17 0=some ([3,14,15,16],[(3,none,1,false)],[]):=rfl
@[go_sem] theorem out_17_0:K.out 17 0=some [3]:=rfl
@[go_sem] theorem live_17_1:K.live 17 1=none:=rfl
@[go_sem] theorem out_17_1:K.out 17 1=none:=rfl
@[go_sem] theorem live_17_2:K.live 17 2=some ([3,5,14,15,16,27,28,29],[(3,none,1,false)],[]):=rfl
@[go_sem] theorem out_17_2:K.out 17 2=some [3,5,14,15,16]:=rfl
@[go_sem] theorem live_17_3:K.live 17 3=none:=rfl
@[go_sem] theorem out_17_3:K.out 17 3=none:=rfl
@[go_sem] theorem live_17_4:K.live 17 4=some ([3,5,14,15,16,47,48,49],[(3,none,1,false)],[]):=rfl
@[go_sem] theorem out_17_4:K.out 17 4=some [3,5,14,15,16]:=rfl
@[go_sem] theorem live_17_5:K.live 17 5=none:=rfl
@[go_sem] theorem out_17_5:K.out 17 5=none:=rfl
@[go_sem] theorem live_17_6:K.live 17 6=some ([3,14,15,16,66,67,68],[(3,none,1,false)],[]):=rfl
@[go_sem] theorem out_17_6:K.out 17 6=some [3,14,15,16]:=rfl
@[go_sem] theorem live_17_7:K.live 17 7=none:=rfl
@[go_sem] theorem out_17_7:K.out 17 7=none:=rfl
@[go_sem] theorem live_18_0:K.live 18 0=some ([1,19,20,21],[],[]):=rfl
@[go_sem] theorem out_18_0:K.out 18 0=some [1]:=rfl
@[go_sem] theorem live_18_1:K.live 18 1=none:=rfl
@[go_sem] theorem out_18_1:K.out 18 1=none:=rfl
@[go_sem] theorem live_18_2:K.live 18 2=some ([1,49,50,51],[],[]):=rfl
@[go_sem] theorem out_18_2:K.out 18 2=some []:=rfl
@[go_sem] theorem live_18_3:K.live 18 3=none:=rfl
@[go_sem] theorem out_18_3:K.out 18 3=none:=rfl
@[go_sem] theorem live_18_4:K.live 18 4=some ([1,8,49,50,51,56,57,58],[],[]):=rfl
@[go_sem] theorem out_18_4:K.out 18 4=some [1,49,50,51]:=rfl
@[go_sem] theorem live_18_5:K.live 18 5=none:=rfl
@[go_sem] theorem out_18_5:K.out 18 5=none:=rfl
@[go_sem] theorem live_18_6:K.live 18 6=some ([1,8,10,11,49,50,51,56,57,58,84,85,86],[],[]):=rfl
@[go_sem] theorem out_18_6:K.out 18 6=some [1,8,49,50,51,56,57,58]:=rfl
@[go_sem] theorem live_18_7:K.live 18 7=none:=rfl
@[go_sem] theorem out_18_7:K.out 18 7=none:=rfl
@[go_sem] theorem dyn_18_6:K.dyn 18 6=[]:=rfl
@[go_sem] theorem dyn_18_22:K.dyn 18 22=[]:=rfl
@[go_sem] theorem dyn_18_27:K.dyn 18 27=[]:=rfl
@[go_sem] theorem live_19_0:K.live 19 0=some ([3,6,7,8],[],[]):=rfl
@[go_sem] theorem out_19_0:K.out 19 0=some [3]:=rfl
@[go_sem] theorem live_19_1:K.live 19 1=none:=rfl
@[go_sem] theorem out_19_1:K.out 19 1=none:=rfl
@[go_sem] theorem live_20_0:K.live 20 0=some ([3,7,8,9],[(3,none,1,false)],[]):=rfl
@[go_sem] theorem out_20_0:K.out 20 0=some [3]:=rfl
@[go_sem] theorem live_20_1:K.live 20 1=none:=rfl
@[go_sem] theorem out_20_1:K.out 20 1=none:=rfl
@[go_sem] theorem dyn_20_5:K.dyn 20 5=[(5,5)]:=rfl
@[go_sem] theorem live_26_0:K.live 26 0=none:=rfl
@[go_sem] theorem out_26_0:K.out 26 0=none:=rfl
@[go_sem] theorem dyn_26_6:K.dyn 26 6=[(7,52),(8,52)]:=rfl
@[go_sem] theorem dyn_26_11:K.dyn 26 11=[]:=rfl
@[go_sem] theorem dyn_26_15:K.dyn 26 15=[(7,97)]:=rfl
@[go_sem] theorem dyn_26_22:K.dyn 26 22=[]:=rfl
@[go_sem] theorem dyn_26_27:K.dyn 26 27=[]:=rfl
@[go_sem] theorem live_31_0:K.live 31 0=none:=rfl
@[go_sem] theorem out_31_0:K.out 31 0=none:=rfl
@[go_sem] theorem dyn_31_6:K.dyn 31 6=[(7,28)]:=rfl
@[go_sem] theorem dyn_31_10:K.dyn 31 10=[(9,57),(9,65),(9,66),(9,70),(14,57),(14,70),(18,57)]:=rfl
@[go_sem] theorem dyn_31_12:K.dyn 31 12=[(9,93),(9,103),(15,93)]:=rfl
@[go_sem] theorem live_32_0:K.live 32 0=some ([1,2,15,16,17],[],[]):=rfl
@[go_sem] theorem out_32_0:K.out 32 0=some []:=rfl
@[go_sem] theorem live_32_1:K.live 32 1=none:=rfl
@[go_sem] theorem out_32_1:K.out 32 1=none:=rfl
@[go_sem] theorem live_34_0:K.live 34 0=some ([0,1,12,13],[],[]):=rfl
@[go_sem] theorem out_34_0:K.out 34 0=some []:=rfl
@[go_sem] theorem live_34_1:K.live 34 1=none:=rfl
@[go_sem] theorem out_34_1:K.out 34 1=none:=rfl
@[go_sem] theorem dyn_34_6:K.dyn 34 6=[]:=rfl
@[go_sem] theorem live_35_0:K.live 35 0=some ([0,1,12,13],[],[]):=rfl
@[go_sem] theorem out_35_0:K.out 35 0=some []:=rfl
@[go_sem] theorem live_35_1:K.live 35 1=none:=rfl
@[go_sem] theorem out_35_1:K.out 35 1=none:=rfl
@[go_sem] theorem dyn_35_6:K.dyn 35 6=[]:=rfl
@[go_sem] theorem live_36_0:K.live 36 0=some ([1,2,15,16,17],[],[]):=rfl
@[go_sem] theorem out_36_0:K.out 36 0=some []:=rfl
@[go_sem] theorem live_36_1:K.live 36 1=none:=rfl
@[go_sem] theorem out_36_1:K.out 36 1=none:=rfl
@[go_sem] theorem live_38_0:K.live 38 0=some ([1,2,15,16,17],[],[]):=rfl
@[go_sem] theorem out_38_0:K.out 38 0=some []:=rfl
@[go_sem] theorem live_38_1:K.live 38 1=none:=rfl
@[go_sem] theorem out_38_1:K.out 38 1=none:=rfl
@[go_sem] theorem live_41_0:K.live 41 0=some ([0,4,5,33,34],[],[]):=rfl
@[go_sem] theorem out_41_0:K.out 41 0=some [0,4,5]:=rfl
@[go_sem] theorem live_41_1:K.live 41 1=none:=rfl
@[go_sem] theorem out_41_1:K.out 41 1=none:=rfl
@[go_sem] theorem live_41_2:K.live 41 2=some ([0,4,5,51,52],[(5,some 4,3,false)],[]):=rfl
@[go_sem] theorem out_41_2:K.out 41 2=some [4,5]:=rfl
@[go_sem] theorem live_41_3:K.live 41 3=none:=rfl
@[go_sem] theorem out_41_3:K.out 41 3=none:=rfl
@[go_sem] theorem live_41_4:K.live 41 4=some ([0,4,5,8,51,52,74,75,76],[(8,some 1,1,false)],[]):=rfl
@[go_sem] theorem out_41_4:K.out 41 4=some [0,4,5,8,51,52]:=rfl
@[go_sem] theorem live_41_5:K.live 41 5=none:=rfl
@[go_sem] theorem out_41_5:K.out 41 5=none:=rfl
@[go_sem] theorem dyn_41_3:K.dyn 41 3=[(4,18)]:=rfl
@[go_sem] theorem dyn_41_8:K.dyn 41 8=[(8,37)]:=rfl
@[go_sem] theorem dyn_41_14:K.dyn 41 14=[(4,69),(10,73)]:=rfl
@[go_sem] theorem dyn_41_17:K.dyn 41 17=[]:=rfl
@[go_sem] theorem live_42_0:K.live 42 0=some ([0,1,7,8],[],[]):=rfl
@[go_sem] theorem out_42_0:K.out 42 0=some []:=rfl
@[go_sem] theorem live_42_1:K.live 42 1=none:=rfl
@[go_sem] theorem out_42_1:K.out 42 1=none:=rfl
@[go_sem] theorem live_51_0:K.live 51 0=none:=rfl
@[go_sem] theorem out_51_0:K.out 51 0=none:=rfl
@[go_sem] theorem live_52_0:K.live 52 0=some ([6,7,8],[],[]):=rfl
@[go_sem] theorem out_52_0:K.out 52 0=some []:=rfl
@[go_sem] theorem live_52_1:K.live 52 1=none:=rfl
@[go_sem] theorem out_52_1:K.out 52 1=none:=rfl
@[go_sem] theorem live_54_0:K.live 54 0=some ([1,7,8],[],[]):=rfl
@[go_sem] theorem out_54_0:K.out 54 0=some []:=rfl
@[go_sem] theorem live_54_1:K.live 54 1=none:=rfl
@[go_sem] theorem out_54_1:K.out 54 1=none:=rfl
@[go_sem] theorem dyn_59_1:K.dyn 59 1=[]:=rfl
@[go_sem] theorem dyn_61_1:K.dyn 61 1=[]:=rfl
@[go_sem] theorem live_64_0:K.live 64 0=none:=rfl
@[go_sem] theorem out_64_0:K.out 64 0=none:=rfl
@[go_sem] theorem live_65_0:K.live 65 0=some ([1,41,42,43],[],[]):=rfl
@[go_sem] theorem out_65_0:K.out 65 0=some [1]:=rfl
@[go_sem] theorem live_65_1:K.live 65 1=none:=rfl
@[go_sem] theorem out_65_1:K.out 65 1=none:=rfl
@[go_sem] theorem live_65_2:K.live 65 2=none:=rfl
@[go_sem] theorem out_65_2:K.out 65 2=none:=rfl
@[go_sem] theorem live_65_3:K.live 65 3=some ([1,77,78,79],[],[]):=rfl
@[go_sem] theorem out_65_3:K.out 65 3=some [1]:=rfl
@[go_sem] theorem live_65_4:K.live 65 4=none:=rfl
@[go_sem] theorem out_65_4:K.out 65 4=none:=rfl
@[go_sem] theorem live_65_5:K.live 65 5=none:=rfl
@[go_sem] theorem out_65_5:K.out 65 5=none:=rfl
@[go_sem] theorem live_65_6:K.live 65 6=some ([1,106,107,108],[],[]):=rfl
@[go_sem] theorem out_65_6:K.out 65 6=some [1]:=rfl
@[go_sem] theorem live_65_7:K.live 65 7=none:=rfl
@[go_sem] theorem out_65_7:K.out 65 7=none:=rfl
@[go_sem] theorem live_65_8:K.live 65 8=some ([1,138,139,140],[],[]):=rfl
@[go_sem] theorem out_65_8:K.out 65 8=some []:=rfl
@[go_sem] theorem live_65_9:K.live 65 9=none:=rfl
@[go_sem] theorem out_65_9:K.out 65 9=none:=rfl
@[go_sem] theorem live_65_10:K.live 65 10=none:=rfl
@[go_sem] theorem out_65_10:K.out 65 10=none:=rfl
@[go_sem] theorem dyn_65_8:K.dyn 65 8=[]:=rfl
@[go_sem] theorem dyn_65_30:K.dyn 65 30=[]:=rfl
@[go_sem] theorem dyn_65_40:K.dyn 65 40=[]:=rfl
@[go_sem] theorem live_69_0:K.live 69 0=some ([1,3,12,13,14],[(3,none,1,false)],[]):=rfl
@[go_sem] theorem out_69_0:K.out 69 0=some [1,3]:=rfl
@[go_sem] theorem live_69_1:K.live 69 1=none:=rfl
@[go_sem] theorem out_69_1:K.out 69 1=none:=rfl
@[go_sem] theorem live_69_2:K.live 69 2=some ([1,3,38,39,40],[(3,none,1,false)],[]):=rfl
@[go_sem] theorem out_69_2:K.out 69 2=some [1,3]:=rfl
@[go_sem] theorem live_69_3:K.live 69 3=none:=rfl
@[go_sem] theorem out_69_3:K.out 69 3=none:=rfl
@[go_sem] theorem live_69_4:K.live 69 4=some ([3,58,59,60],[(3,none,1,false)],[]):=rfl
@[go_sem] theorem out_69_4:K.out 69 4=some [3]:=rfl
@[go_sem] theorem live_69_5:K.live 69 5=none:=rfl
@[go_sem] theorem out_69_5:K.out 69 5=none:=rfl
@[go_sem] theorem dyn_69_5:K.dyn 69 5=[]:=rfl
@[go_sem] theorem live_83_0:K.live 83 0=some ([0,1,7,8,9],[],[]):=rfl
@[go_sem] theorem out_83_0:K.out 83 0=some [1]:=rfl
@[go_sem] theorem live_83_1:K.live 83 1=none:=rfl
@[go_sem] theorem out_83_1:K.out 83 1=none:=rfl
@[go_sem] theorem dyn_88_5:K.dyn 88 5=[(4,22),(4,23),(9,25)]:=rfl
@[go_sem] theorem dyn_88_8:K.dyn 88 8=[(3,38)]:=rfl
@[go_sem] theorem live_89_0:K.live 89 0=some ([0,5,8,9,10],[(5,none,1,false)],[]):=rfl
@[go_sem] theorem out_89_0:K.out 89 0=some [5]:=rfl
@[go_sem] theorem live_89_1:K.live 89 1=none:=rfl
@[go_sem] theorem out_89_1:K.out 89 1=none:=rfl
@[go_sem] theorem live_91_0:K.live 91 0=some ([0,1,5,9,10],[(5,none,1,true)],[]):=rfl
@[go_sem] theorem out_91_0:K.out 91 0=some [0,1,5]:=rfl
@[go_sem] theorem live_91_1:K.live 91 1=none:=rfl
@[go_sem] theorem out_91_1:K.out 91 1=none:=rfl
@[go_sem] theorem live_91_2:K.live 91 2=some ([0,5,7],[],[]):=rfl
@[go_sem] theorem out_91_2:K.out 91 2=some [5]:=rfl
@[go_sem] theorem live_91_3:K.live 91 3=none:=rfl
@[go_sem] theorem out_91_3:K.out 91 3=none:=rfl
@[go_sem] theorem dyn_91_11:K.dyn 91 11=[]:=rfl
@[go_sem] theorem live_92_0:K.live 92 0=some ([0,1,7,8],[],[]):=rfl
@[go_sem] theorem out_92_0:K.out 92 0=some []:=rfl
@[go_sem] theorem live_92_1:K.live 92 1=none:=rfl
@[go_sem] theorem out_92_1:K.out 92 1=none:=rfl
@[go_sem] theorem live_93_0:K.live 93 0=some ([0,1,7,8],[],[]):=rfl
@[go_sem] theorem out_93_0:K.out 93 0=some []:=rfl
@[go_sem] theorem live_93_1:K.live 93 1=none:=rfl
@[go_sem] theorem out_93_1:K.out 93 1=none:=rfl
@[go_sem] theorem live_96_0:K.live 96 0=none:=rfl
@[go_sem] theorem out_96_0:K.out 96 0=none:=rfl
@[go_sem] theorem live_97_0:K.live 97 0=some ([0,3,4,18,19],[],[]):=rfl
@[go_sem] theorem out_97_0:K.out 97 0=some [4]:=rfl
@[go_sem] theorem live_97_1:K.live 97 1=none:=rfl
@[go_sem] theorem out_97_1:K.out 97 1=none:=rfl
@[go_sem] theorem dyn_97_2:K.dyn 97 2=[(2,9),(7,7),(7,10)]:=rfl
@[go_sem] theorem live_99_0:K.live 99 0=none:=rfl
@[go_sem] theorem out_99_0:K.out 99 0=none:=rfl
@[go_sem] theorem live_111_0:K.live 111 0=none:=rfl
@[go_sem] theorem out_111_0:K.out 111 0=none:=rfl
@[go_sem] theorem dyn_114_1:K.dyn 114 1=[]:=rfl
@[go_sem] theorem live_117_0:K.live 117 0=none:=rfl
@[go_sem] theorem out_117_0:K.out 117 0=none:=rfl
@[go_sem] theorem live_121_0:K.live 121 0=some ([1,2,7,8,9],[],[]):=rfl
@[go_sem] theorem out_121_0:K.out 121 0=some []:=rfl
@[go_sem] theorem live_121_1:K.live 121 1=none:=rfl
@[go_sem] theorem out_121_1:K.out 121 1=none:=rfl
@[go_sem] theorem dyn_124_1:K.dyn 124 1=[]:=rfl
@[go_sem] theorem live_171_0:K.live 171 0=some ([0,1,8,9],[],[]):=rfl
@[go_sem] theorem out_171_0:K.out 171 0=some [0]:=rfl
@[go_sem] theorem live_171_1:K.live 171 1=none:=rfl
@[go_sem] theorem out_171_1:K.out 171 1=none:=rfl
@[go_sem] theorem live_172_0:K.live 172 0=some ([0,3,4,5,8,9],[(3,none,1,false)],[]):=rfl
@[go_sem] theorem out_172_0:K.out 172 0=some [0,3,5]:=rfl
@[go_sem] theorem live_172_1:K.live 172 1=none:=rfl
@[go_sem] theorem out_172_1:K.out 172 1=none:=rfl
@[go_sem] theorem live_172_2:K.live 172 2=none:=rfl
@[go_sem] theorem out_172_2:K.out 172 2=none:=rfl
@[go_sem] theorem live_188_0:K.live 188 0=some ([0,3,4,5,6],[(3,none,1,false)],[]):=rfl
@[go_sem] theorem out_188_0:K.out 188 0=some [0,3,4]:=rfl
@[go_sem] theorem live_188_1:K.live 188 1=none:=rfl
@[go_sem] theorem out_188_1:K.out 188 1=none:=rfl
@[go_sem] theorem live_191_0:K.live 191 0=none:=rfl
@[go_sem] theorem out_191_0:K.out 191 0=none:=rfl
@[go_sem] theorem live_197_0:K.live 197 0=none:=rfl
@[go_sem] theorem out_197_0:K.out 197 0=none:=rfl
@[go_sem] theorem live_199_0:K.live 199 0=none:=rfl
@[go_sem] theorem out_199_0:K.out 199 0=none:=rfl
@[go_sem] theorem live_200_0:K.live 200 0=none:=rfl
@[go_sem] theorem out_200_0:K.out 200 0=none:=rfl
@[go_sem] theorem dyn_200_1:K.dyn 200 1=[]:=rfl
@[go_sem] theorem dyn_200_4:K.dyn 200 4=[]:=rfl
@[go_sem] theorem dyn_200_6:K.dyn 200 6=[(6,31)]:=rfl
@[go_sem] theorem dyn_208_2:K.dyn 208 2=[]:=rfl
@[go_sem] theorem live_210_0:K.live 210 0=none:=rfl
@[go_sem] theorem out_210_0:K.out 210 0=none:=rfl
@[go_sem] theorem live_213_0:K.live 213 0=none:=rfl
@[go_sem] theorem out_213_0:K.out 213 0=none:=rfl
@[go_sem] theorem live_287_0:K.live 287 0=some ([0,2,7,8,9],[],[]):=rfl
@[go_sem] theorem out_287_0:K.out 287 0=some [2]:=rfl
@[go_sem] theorem live_287_1:K.live 287 1=none:=rfl
@[go_sem] theorem out_287_1:K.out 287 1=none:=rfl
@[go_sem] theorem live_293_0:K.live 293 0=none:=rfl
@[go_sem] theorem out_293_0:K.out 293 0=none:=rfl
@[go_sem] theorem live_294_0:K.live 294 0=none:=rfl
@[go_sem] theorem out_294_0:K.out 294 0=none:=rfl
@[go_sem] theorem live_294_1:K.live 294 1=some ([1,23,24],[],[]):=rfl
@[go_sem] theorem out_294_1:K.out 294 1=some []:=rfl
@[go_sem] theorem live_294_2:K.live 294 2=none:=rfl
@[go_sem] theorem out_294_2:K.out 294 2=none:=rfl
@[go_sem] theorem live_301_0:K.live 301 0=some ([2,3,4,5],[],[]):=rfl
@[go_sem] theorem out_301_0:K.out 301 0=some [2,3,4,5]:=rfl
@[go_sem] theorem live_301_1:K.live 301 1=none:=rfl
@[go_sem] theorem out_301_1:K.out 301 1=none:=rfl
@[go_sem] theorem live_301_2:K.live 301 2=some ([2,3,4,5,6],[],[]):=rfl
@[go_sem] theorem out_301_2:K.out 301 2=some [2,3,4,5,6]:=rfl
@[go_sem] theorem live_301_3:K.live 301 3=none:=rfl
@[go_sem] theorem out_301_3:K.out 301 3=none:=rfl
@[go_sem] theorem live_303_0:K.live 303 0=some ([6,7,8],[],[]):=rfl
@[go_sem] theorem out_303_0:K.out 303 0=some []:=rfl
@[go_sem] theorem live_303_1:K.live 303 1=none:=rfl
@[go_sem] theorem out_303_1:K.out 303 1=none:=rfl
@[go_sem] theorem dyn_305_2:K.dyn 305 2=[]:=rfl
@[go_sem] theorem live_377_0:K.live 377 0=none:=rfl
@[go_sem] theorem out_377_0:K.out 377 0=none:=rfl
@[go_sem] theorem live_386_0:K.live 386 0=none:=rfl
@[go_sem] theorem out_386_0:K.out 386 0=none:=rfl
@[go_sem] theorem live_388_0:K.live 388 0=some ([0,2,3,4,5],[],[]):=rfl
@[go_sem] theorem out_388_0:K.out 388 0=some [0,2,3,4,5]:=rfl
@[go_sem] theorem live_388_1:K.live 388 1=none:=rfl
@[go_sem] theorem out_388_1:K.out 388 1=none:=rfl
@[go_sem] theorem live_388_2:K.live 388 2=some ([0,2,3,4,5],[],[]):=rfl
@[go_sem] theorem out_388_2:K.out 388 2=some [0,2,3,4,5]:=rfl
@[go_sem] theorem live_388_3:K.live 388 3=none:=rfl
@[go_sem] theorem out_388_3:K.out 388 3=none:=rfl
@[go_sem] theorem live_422_0:K.live 422 0=some ([0,2,3,14,15],[],[]):=rfl
@[go_sem] theorem out_422_0:K.out 422 0=some [0,2,3]:=rfl
@[go_sem] theorem live_422_1:K.live 422 1=none:=rfl
@[go_sem] theorem out_422_1:K.out 422 1=none:=rfl
@[go_sem] theorem live_428_0:K.live 428 0=some ([0,2,4,20,21,22],[(4,none,1,true)],[]):=rfl
@[go_sem] theorem out_428_0:K.out 428 0=some [0,2,4]:=rfl
@[go_sem] theorem live_428_1:K.live 428 1=none:=rfl
@[go_sem] theorem out_428_1:K.out 428 1=none:=rfl
@[go_sem] theorem dyn_428_12:K.dyn 428 12=[]:=rfl
@[go_sem] theorem dyn_428_13:K.dyn 428 13=[]:=rfl
@[go_sem] theorem live_438_0:K.live 438 0=none:=rfl
@[go_sem] theorem out_438_0:K.out 438 0=none:=rfl
@[go_sem] theorem live_467_0:K.live 467 0=some ([0,1,3,4,5,12,13,14],[],[]):=rfl
@[go_sem] theorem out_467_0:K.out 467 0=some [3,4,5,12,13]:=rfl
@[go_sem] theorem live_467_1:K.live 467 1=none:=rfl
@[go_sem] theorem out_467_1:K.out 467 1=none:=rfl
@[go_sem] theorem live_470_0:K.live 470 0=some ([0,1,3,4,5,12,13,14],[],[]):=rfl
@[go_sem] theorem out_470_0:K.out 470 0=some [0,1,3,4,5,12,13]:=rfl
@[go_sem] theorem live_470_1:K.live 470 1=none:=rfl
@[go_sem] theorem out_470_1:K.out 470 1=none:=rfl
@[go_sem] theorem live_470_2:K.live 470 2=some ([0,1,3,4,5,12,13,15],[],[]):=rfl
@[go_sem] theorem out_470_2:K.out 470 2=some [3,4,5,12,13]:=rfl
@[go_sem] theorem live_470_3:K.live 470 3=none:=rfl
@[go_sem] theorem out_470_3:K.out 470 3=none:=rfl
theorem call_3:CallT 3 Tryz.f3:=fun _ _=>R_call rfl rfl (by decide +kernel) rfl Tryz.func3 rfl
@[go_sem] theorem ret_3 (k:Nat) (fr:Fr) (h:Heap):retOf K 3 k fr h=leaving 0 k h (resL Tryz.prog fr h [.tmp 2]):=ret_of Tryz.func3 rfl rfl
theorem call_4:CallT 4 Tryz.f4:=fun _ _=>R_call rfl rfl (by decide +kernel) rfl Tryz.func4 rfl
@[go_sem] theorem ret_4 (k:Nat) (fr:Fr) (h:Heap):retOf K 4 k fr h=leaving 0 k h (resL Tryz.prog fr h [.cell 2 28]):=ret_of Tryz.func4 rfl rfl
theorem call_5:CallT 5 Tryz.f5:=fun _ _=>R_call rfl rfl (by decide +kernel) rfl Tryz.func5 rfl
@[go_sem] theorem ret_5 (k:Nat) (fr:Fr) (h:Heap):retOf K 5 k fr h=leaving 0 k h (resL Tryz.prog fr h [.tmp 2,.tmp 3]):=ret_of Tryz.func5 rfl rfl
theorem call_6:CallT 6 Tryz.f6:=fun _ _=>R_call rfl rfl (by decide +kernel) rfl Tryz.func6 rfl
@[go_sem] theorem ret_6 (k:Nat) (fr:Fr) (h:Heap):retOf K 6 k fr h=leaving 0 k h (resL Tryz.prog fr h [.tmp 2,.tmp 3]):=ret_of Tryz.func6 rfl rfl
theorem call_8:CallT 8 Tryz.f8:=fun _ _=>R_call rfl rfl (by decide +kernel) rfl Tryz.func8 rfl
@[go_sem] theorem ret_8 (k:Nat) (fr:Fr) (h:Heap):retOf K 8 k fr h=leaving 0 k h (resL Tryz.prog fr h [.tmp 4]):=ret_of Tryz.func8 rfl rfl
theorem call_9:CallT 9 Tryz.f9:=fun _ _=>R_call rfl rfl (by decide +kernel) rfl Tryz.func9 rfl
@[go_sem] theorem ret_9 (k:Nat) (fr:Fr) (h:Heap):retOf K 9 k fr h=leaving 0 k h (resL Tryz.prog fr h [.tmp 6]):=ret_of Tryz.func9 rfl rfl
theorem call_10:CallT 10 Tryz.f10:=fun _ _=>R_call rfl rfl (by decide +kernel) rfl Tryz.func10 rfl
@[go_sem] theorem ret_10 (k:Nat) (fr:Fr) (h:Heap):retOf K 10 k fr h=leaving 0 k h (resL Tryz.prog fr h [.tmp 4]):=ret_of Tryz.func10 rfl rfl
theorem call_11:CallT 11 Tryz.f11:=fun _ _=>R_call rfl rfl (by decide +kernel) rfl Tryz.func11 rfl
@[go_sem] theorem ret_11 (k:Nat) (fr:Fr) (h:Heap):retOf K 11 k fr h=leaving 0 k h (resL Tryz.prog fr h [.cell 2 28,.tmp 3]):=ret_of Tryz.func11 rfl rfl
theorem call_12:CallT 12 Tryz.f12:=fun _ _=>R_call rfl rfl (by decide +kernel) rfl Tryz.func12 rfl
@[go_sem] theorem ret_12 (k:Nat) (fr:Fr) (h:Heap):retOf K 12 k fr h=leaving 0 k h (resL Tryz.prog fr h [.cell 2 28,.tmp 3]):=ret_of Tryz.func12 rfl rfl
theorem call_13:CallT 13 Tryz.f13:=fun _ _=>R_call rfl rfl (by decide +kernel) rfl Tryz.func13 rfl
@[go_sem] theorem ret_13 (k:Nat) (fr:Fr) (h:Heap):retOf K 13 k fr h=leaving 0 k h (resL Tryz.prog fr h [.tmp 4]):=ret_of Tryz.func13 rfl rfl
theorem call_14:CallT 14 Tryz.f14:=fun _ _=>R_call rfl rfl (by decide +kernel) rfl Tryz.func14 rfl
@[go_sem] theorem ret_14 (k:Nat) (fr:Fr) (h:Heap):retOf K 14 k fr h=leaving 0 k h (resL Tryz.prog fr h [.cell 2 28]):=ret_of Tryz.func14 rfl rfl
theorem call_15:CallT 15 Tryz.f15:=fun _ _=>R_call rfl rfl (by decide +kernel) rfl Tryz.func15 rfl
@[go_sem] theorem ret_15 (k:Nat) (fr:Fr) (h:Heap):retOf K 15 k fr h=leaving 0 k h (resL Tryz.prog fr h [.cell 4 28]):=ret_of Tryz.func15 rfl rfl
theorem call_16:CallT 16 Tryz.f16:=fun _ _=>R_call rfl rfl (by decide +kernel) rfl Tryz.func16 rfl
@[go_sem] theorem ret_16 (k:Nat) (fr:Fr) (h:Heap):retOf K 16 k fr h=leaving 0 k h (resL Tryz.prog fr h [.tmp 2]):=ret_of Tryz.func16 rfl rfl
theorem call_17:CallT 17 Tryz.f17:=fun _ _=>R_call rfl rfl (by decide +kernel) rfl Tryz.func17 rfl
@[go_sem] theorem ret_17 (k:Nat) (fr:Fr) (h:Heap):retOf K 17 k fr h=leaving 0 k h (resL Tryz.prog fr h [.tmp 2]):=ret_of Tryz.func17 rfl rfl
theorem call_18:CallT 18 Tryz.f18:=fun _ _=>R_call rfl rfl (by decide +kernel) rfl Tryz.func18 rfl
@[go_sem] theorem ret_18 (k:Nat) (fr:Fr) (h:Heap):retOf K 18 k fr h=leaving 0 k h (resL Tryz.prog fr h [.tmp 2]):=ret_of Tryz.func18 rfl rfl
theorem call_19:CallT 19 Tryz.f19:=fun _ _=>R_call rfl rfl (by decide +kernel) rfl Tryz.func19 rfl
@[go_sem] theorem ret_19 (k:Nat) (fr:Fr) (h:Heap):retOf K 19 k fr h=leaving 0 k h (resL Tryz.prog fr h [.tmp 2]):=ret_of Tryz.func19 rfl rfl
theorem call_20:CallT 20 Tryz.f20:=fun _ _=>R_call rfl rfl (by decide +kernel) rfl Tryz.func20 rfl
@[go_sem] theorem ret_20 (k:Nat) (fr:Fr) (h:Heap):retOf K 20 k fr h=leaving 0 k h (resL Tryz.prog fr h [.tmp 2]):=ret_of Tryz.func20 rfl rfl
theorem call_24:CallT 24 Tryz.f24:=fun _ _=>R_call rfl rfl (by decide +kernel) rfl Tryz.func24 rfl
@[go_sem] theorem ret_24 (k:Nat) (fr:Fr) (h:Heap):retOf K 24 k fr h=leaving 0 k h (resL Tryz.prog fr h [.tmp 4]):=ret_of Tryz.func24 rfl rfl
theorem call_25:CallT 25 Tryz.f25:=fun _ _=>R_call rfl rfl (by decide +kernel) rfl Tryz.func25 rfl
@[go_sem] theorem ret_25 (k:Nat) (fr:Fr) (h:Heap):retOf K 25 k fr h=leaving 0 k h (resL Tryz.prog fr h [.tmp 2,.tmp 3]):=ret_of Tryz.func25 rfl rfl
theorem call_26:CallT 26 Tryz.f26:=fun _ _=>R_call rfl rfl (by decide +kernel) rfl Tryz.func26 rfl
@[go_sem] theorem ret_26 (k:Nat) (fr:Fr) (h:Heap):retOf K 26 k fr h=leaving 0 k h (resL Tryz.prog fr h []):=ret_of Tryz.func26 rfl rfl
theorem call_30:CallT 30 Tryz.f30:=fun _ _=>R_call rfl rfl (by decide +kernel) rfl Tryz.func30 rfl
@[go_sem] theorem ret_30 (k:Nat) (fr:Fr) (h:Heap):retOf K 30 k fr h=leaving 0 k h (resL Tryz.prog fr h [.tmp 6]):=ret_of Tryz.func30 rfl rfl
theorem call_31:CallT 31 Tryz.f31:=fun _ _=>R_call rfl rfl (by decide +kernel) rfl Tryz.func31 rfl
@[go_sem] theorem ret_31 (k:Nat) (fr:Fr) (h:Heap):retOf K 31 k fr h=leaving 0 k h (resL Tryz.prog fr h []):=ret_of Tryz.func31 rfl rfl
theorem call_32:CallT 32 Tryz.f32:=fun _ _=>R_call rfl rfl (by decide +kernel) rfl Tryz.func32 rfl
@[go_sem] theorem ret_32 (k:Nat) (fr:Fr) (h:Heap):retOf K 32 k fr h=leaving 0 k h (resL Tryz.prog fr h [.tmp 6]):=ret_of Tryz.func32 rfl rfl
theorem call_33:CallT 33 Tryz.f33:=fun _ _=>R_call rfl rfl (by decide +kernel) rfl Tryz.func33 rfl
@[go_sem] theorem ret_33 (k:Nat) (fr:Fr) (h:Heap):retOf K 33 k fr h=leaving 0 k h (resL Tryz.prog fr h [.tmp 4]):=ret_of Tryz.func33 rfl rfl
theorem call_34:CallT 34 Tryz.f34:=fun _ _=>R_call rfl rfl (by decide +kernel) rfl Tryz.func34 rfl
@[go_sem] theorem ret_34 (k:Nat) (fr:Fr) (h:Heap):retOf K 34 k fr h=leaving 0 k h (resL Tryz.prog fr h [.tmp 4]):=ret_of Tryz.func34 rfl rfl
theorem call_35:CallT 35 Tryz.f35:=fun _ _=>R_call rfl rfl (by decide +kernel) rfl Tryz.func35 rfl
@[go_sem] theorem ret_35 (k:Nat) (fr:Fr) (h:Heap):retOf K 35 k fr h=leaving 0 k h (resL Tryz.prog fr h [.tmp 4]):=ret_of Tryz.func35 rfl rfl
theorem call_36:CallT 36 Tryz.f36:=fun _ _=>R_call rfl rfl (by decide +kernel) rfl Tryz.func36 rfl
@[go_sem] theorem ret_36 (k:Nat) (fr:Fr) (h:Heap):retOf K 36 k fr h=leaving 0 k h (resL Tryz.prog fr h [.tmp 6]):=ret_of Tryz.func36 rfl rfl
theorem call_37:CallT 37 Tryz.f37:=fun _ _=>R_call rfl rfl (by decide +kernel) rfl Tryz.func37 rfl
@[go_sem] theorem ret_37 (k:Nat) (fr:Fr) (h:Heap):retOf K 37 k fr h=leaving 0 k h (resL Tryz.prog fr h [.tmp 4]):=ret_of Tryz.func37 rfl rfl
theorem call_38:CallT 38 Tryz.f38:=fun _ _=>R_call rfl rfl (by decide +kernel) rfl Tryz.func38 rfl
@[go_sem] theorem ret_38 (k:Nat) (fr:Fr) (h:Heap):retOf K 38 k fr h=leaving 0 k h (resL Tryz.prog fr h [.tmp 6]):=ret_of Tryz.func38 rfl rfl
theorem call_39:CallT 39 Tryz.f39:=fun _ _=>R_call rfl rfl (by decide +kernel) rfl Tryz.func39 rfl
@[go_sem] theorem ret_39 (k:Nat) (fr:Fr) (h:Heap):retOf K 39 k fr h=leaving 0 k h (resL Tryz.prog fr h [.tmp 4]):=ret_of Tryz.func39 rfl rfl
theorem call_40:CallT 40 Tryz.f40:=fun _ _=>R_call rfl rfl (by decide +kernel) rfl Tryz.func40 rfl
@[go_sem] theorem ret_40 (k:Nat) (fr:Fr) (h:Heap):retOf K 40 k fr h=leaving 0 k h (resL Tryz.prog fr h [.tmp 6]):=ret_of Tryz.func40 rfl rfl
theorem call_41:CallT 41 Tryz.f41:=fun _ _=>R_call rfl rfl (by decide +kernel) rfl Tryz.func41 rfl
@[go_sem] theorem ret_41 (k:Nat) (fr:Fr) (h:Heap):retOf K 41 k fr h=leaving 0 k h (resL Tryz.prog fr h [.cell 4 91]):=ret_of Tryz.func41 rfl rfl
theorem call_42:CallT 42 Tryz.f42:=fun _ _=>R_call rfl rfl (by decide +kernel) rfl Tryz.func42 rfl
@[go_sem] theorem ret_42 (k:Nat) (fr:Fr) (h:Heap):retOf K 42 k fr h=leaving 0 k h (resL Tryz.prog fr h [.tmp 4]):=ret_of Tryz.func42 rfl rfl
theorem call_43:CallT 43 Tryz.f43:=fun _ _=>R_call rfl rfl (by decide +kernel) rfl Tryz.func43 rfl
@[go_sem] theorem ret_43 (k:Nat) (fr:Fr) (h:Heap):retOf K 43 k fr h=leaving 0 k h (resL Tryz.prog fr h [.tmp 3]):=ret_of Tryz.func43 rfl rfl
theorem call_44:CallT 44 Tryz.f44:=fun _ _=>R_call rfl rfl (by decide +kernel) rfl Tryz.func44 rfl
@[go_sem] theorem ret_44 (k:Nat) (fr:Fr) (h:Heap):retOf K 44 k fr h=leaving 0 k h (resL Tryz.prog fr h [.tmp 4]):=ret_of Tryz.func44 rfl rfl
theorem call_45:CallT 45 Tryz.f45:=fun _ _=>R_call rfl rfl (by decide +kernel) rfl Tryz.func45 rfl
@[go_sem] theorem ret_45 (k:Nat) (fr:Fr) (h:Heap):retOf K 45 k fr h=leaving 0 k h (resL Tryz.prog fr h [.tmp 4]):=ret_of Tryz.func45 rfl rfl
theorem call_46 {args:List AV} {h:Heap} (hp:K.prim 46 args=none):R K (.call 46 args h)=R K (.run 46 h.length [.code (Tryz.f46.body.getD .skip)] (entry 0 args) h):=R_call hp rfl (by decide +kernel) rfl Tryz.func46 rfl
@[go_sem] theorem ret_46 (k:Nat) (fr:Fr) (h:Heap):retOf K 46 k fr h=leaving 1 k h (resL Tryz.prog fr h [.tmp 2]):=ret_of Tryz.func46 rfl rfl
theorem call_47:CallT 47 Tryz.f47:=fun _ _=>R_call rfl rfl (by decide +kernel) rfl Tryz.func47 rfl
@[go_sem] theorem ret_47 (k:Nat) (fr:Fr) (h:Heap):retOf K 47 k fr h=leaving 0 k h (resL Tryz.prog fr h [.tmp 4]):=ret_of Tryz.func47 rfl rfl
theorem call_48 {args:List AV} {h:Heap} (hp:K.prim 48 args=none):R K (.call 48 args h)=R K (.run 48 h.length [.code (Tryz.f48.body.getD .skip)] (entry 0 args) h):=R_call hp rfl (by decide +kernel) rfl Tryz.func48 rfl
@[go_sem] theorem ret_48 (k:Nat) (fr:Fr) (h:Heap):retOf K 48 k fr h=leaving 1 k h (resL Tryz.prog fr h [.tmp 2]):=ret_of Tryz.func48 rfl rfl
theorem call_49 {args:List AV} {h:Heap} (hp:K.prim 49 args=none):R K (.call 49 args h)=R K (.run 49 h.length [.code (Tryz.f49.body.getD .skip)] (entry 0 args) h):=R_call hp rfl (by decide +kernel) rfl Tryz.func49 rfl
@[go_sem] theorem ret_49 (k:Nat) (fr:Fr) (h:Heap):retOf K 49 k fr h=leaving 1 k h (resL Tryz.prog fr h [.tmp 2]):=ret_of Tryz.func49 rfl rfl
theorem call_50 {args:List AV} {h:Heap} (hp:K.prim 50 args=none):R K (.call 50 args h)=R K (.run 50 h.length [.code (Tryz.f50.body.getD .skip)] (entry 0 args) h):=R_call hp rfl (by decide +kernel) rfl Tryz.func50 rfl
@[go_sem] theorem ret_50 (k:Nat) (fr:Fr) (h:Heap):retOf K 50 k fr h=leaving 1 k h (resL Tryz.prog fr h [.tmp 2]):=ret_of Tryz.func50 rfl rfl
theorem call_51:CallT 51 Tryz.f51:=fun _ _=>R_call rfl rfl (by decide +kernel) rfl Tryz.func51 rfl
@[go_sem] theorem ret_51 (k:Nat) (fr:Fr) (h:Heap):retOf K 51 k fr h=leaving 0 k h (resL Tryz.prog fr h [.cell 2 61]):=ret_of Tryz.func51 rfl rfl
theorem call_52:CallT 52 Tryz.f52:=fun _ _=>R_call rfl rfl (by decide +kernel) rfl Tryz.func52 rfl
@[go_sem] theorem ret_52 (k:Nat) (fr:Fr) (h:Heap):retOf K 52 k fr h=leaving 0 k h (resL Tryz.prog fr h [.tmp 2]):=ret_of Tryz.func52 rfl rfl
theorem call_53:CallT 53 Tryz.f53:=fun _ _=>R_call rfl rfl (by decide +kernel) rfl Tryz.func53 rfl
@[go_sem] theorem ret_53 (k:Nat) (fr:Fr) (h:Heap):retOf K 53 k fr h=leaving 0 k h (resL Tryz.prog fr h [.tmp 1]):=ret_of Tryz.func53 rfl rfl
theorem call_54:CallT 54 Tryz.f54:=fun _ _=>R_call rfl rfl (by decide +kernel) rfl Tryz.func54 rfl
@[go_sem] theorem ret_54 (k:Nat) (fr:Fr) (h:Heap):retOf K 54 k fr h=leaving 0 k h (resL Tryz.prog fr h [.tmp 4]):=ret_of Tryz.func54 rfl rfl
theorem call_55:CallT 55 Tryz.f55:=fun _ _=>R_call rfl rfl (by decide +kernel) rfl Tryz.func55 rfl
@[go_sem] theorem ret_55 (k:Nat) (fr:Fr) (h:Heap):retOf K 55 k fr h=leaving 0 k h (resL Tryz.prog fr h [.tmp 3]):=ret_of Tryz.func55 rfl rfl
theorem call_56:CallT 56 Tryz.f56:=fun _ _=>R_call rfl rfl (by decide +kernel) rfl Tryz.func56 rfl
@[go_sem] theorem ret_56 (k:Nat) (fr:Fr) (h:Heap):retOf K 56 k fr h=leaving 0 k h (resL Tryz.prog fr h [.tmp 4]):=ret_of Tryz.func56 rfl rfl
theorem call_57:CallT 57 Tryz.f57:=fun _ _=>R_call rfl rfl (by decide +kernel) rfl Tryz.func57 rfl
@[go_sem] theorem ret_57 (k:Nat) (fr:Fr) (h:Heap):retOf K 57 k fr h=leaving 0 k h (resL Tryz.prog fr h [.tmp 1]):=ret_of Tryz.func57 rfl rfl
theorem call_58:CallT 58 Tryz.f58:=fun _ _=>R_call rfl rfl (by decide +kernel) rfl Tryz.func58 rfl
@[go_sem] theorem ret_58 (k:Nat) (fr:Fr) (h:Heap):retOf K 58 k fr h=leaving 0 k h (resL Tryz.prog fr h [.tmp 3]):=ret_of Tryz.func58 rfl rfl
theorem call_59:CallT 59 Tryz.f59:=fun _ _=>R_call rfl rfl (by decide +kernel) rfl Tryz.func59 rfl
@[go_sem] theorem ret_59 (k:Nat) (fr:Fr) (h:Heap):retOf K 59 k fr h=leaving 0 k h (resL Tryz.prog fr h [.tmp 4]):=ret_of Tryz.func59 rfl rfl
theorem call_60:CallT 60 Tryz.f60:=fun _ _=>R_call rfl rfl (by decide +kernel) rfl Tryz.func60 rfl
@[go_sem] theorem ret_60 (k:Nat) (fr:Fr) (h:Heap):retOf K 60 k fr h=leaving 0 k h (resL Tryz.prog fr h [.tmp 6]):=ret_of Tryz.func60 rfl rfl
theorem call_61:CallT 61 Tryz.f61:=fun _ _=>R_call rfl rfl (by decide +kernel) rfl Tryz.func61 rfl
@[go_sem] theorem ret_61 (k:Nat) (fr:Fr) (h:Heap):retOf K 61 k fr h=leaving 0 k h (resL Tryz.prog fr h [.tmp 2]):=ret_of Tryz.func61 rfl rfl
theorem call_62:CallT 62 Tryz.f62:=fun _ _=>R_call rfl rfl (by decide +kernel) rfl Tryz.func62 rfl
@[go_sem] theorem ret_62 (k:Nat) (fr:Fr) (h:Heap):retOf K 62 k fr h=leaving 0 k h (resL Tryz.prog fr h [.tmp 4]):=ret_of Tryz.func62 rfl rfl
theorem call_63:CallT 63 Tryz.f63:=fun _ _=>R_call rfl rfl (by decide +kernel) rfl Tryz.func63 rfl
@[go_sem] theorem ret_63 (k:Nat) (fr:Fr) (h:Heap):retOf K 63 k fr h=leaving 0 k h (resL Tryz.prog fr h [.tmp 2]):=ret_of Tryz.func63 rfl rfl
theorem call_64:CallT 64 Tryz.f64:=fun _ _=>R_call rfl rfl (by decide +kernel) rfl Tryz.func64 rfl
@[go_sem] theorem ret_64 (k:Nat) (fr:Fr) (h:Heap):retOf K 64 k fr h=leaving 0 k h (resL Tryz.prog fr h [.tmp 6]):=ret_of Tryz.func64 rfl rfl
theorem call_65:CallT 65 Tryz.f65:=fun _ _=>R_call rfl rfl (by decide +kernel) rfl Tryz.func65 rfl
@[go_sem] theorem ret_65 (k:Nat) (fr:Fr) (h:Heap):retOf K 65 k fr h=leaving 0 k h (resL Tryz.prog fr h [.tmp 2]):=ret_of Tryz.func65 rfl rfl
theorem call_66:CallT 66 Tryz.f66:=fun _ _=>R_call rfl rfl (by decide +kernel) rfl Tryz.func66 rfl
@[go_sem] theorem ret_66 (k:Nat) (fr:Fr) (h:Heap):retOf K 66 k fr h=leaving 0 k h (resL Tryz.prog fr h [.tmp 4]):=ret_of Tryz.func66 rfl rfl
theorem call_67 (args:List AV) (h:Heap):R K (.call 67 args h)=R K (.run 67 (ownedB (entry 0 args) h [(0,1,5)]).length [.code (Tryz.f67.body.getD .skip)] (entry 0 args) (ownedB (entry 0 args) h [(0,1,5)])):=R_callO rfl rfl (by decide +kernel) rfl Tryz.func67 rfl
@[go_sem] theorem ret_67 (k:Nat) (fr:Fr) (h:Heap):retOf K 67 k fr h=leaving 0 k h (resL Tryz.prog fr h [.tmp 4,.tmp 5]):=ret_of Tryz.func67 rfl rfl
theorem call_69:CallT 69 Tryz.f69:=fun _ _=>R_call rfl rfl (by decide +kernel) rfl Tryz.func69 rfl
@[go_sem] theorem ret_69 (k:Nat) (fr:Fr) (h:Heap):retOf K 69 k fr h=leaving 0 k h (resL Tryz.prog fr h [.tmp 2]):=ret_of Tryz.func69 rfl rfl
theorem call_79:CallT 79 Tryz.f79:=fun _ _=>R_call rfl rfl (by decide +kernel) rfl Tryz.func79 rfl
@[go_sem] theorem ret_79 (k:Nat) (fr:Fr) (h:Heap):retOf K 79 k fr h=leaving 0 k h (resL Tryz.prog fr h [.tmp 6]):=ret_of Tryz.func79 rfl rfl
theorem call_80:CallT 80 Tryz.f80:=fun _ _=>R_call rfl rfl (by decide +kernel) rfl Tryz.func80 rfl
@[go_sem] theorem ret_80 (k:Nat) (fr:Fr) (h:Heap):retOf K 80 k fr h=leaving 0 k h (resL Tryz.prog fr h [.tmp 4]):=ret_of Tryz.func80 rfl rfl
theorem call_81:CallT 81 Tryz.f81:=fun _ _=>R_call rfl rfl (by decide +kernel) rfl Tryz.func81 rfl
@[go_sem] theorem ret_81 (k:Nat) (fr:Fr) (h:Heap):retOf K 81 k fr h=leaving 0 k h (resL Tryz.prog fr h []):=ret_of Tryz.func81 rfl rfl
theorem call_82:CallT 82 Tryz.f82:=fun _ _=>R_call rfl rfl (by decide +kernel) rfl Tryz.func82 rfl
@[go_sem] theorem ret_82 (k:Nat) (fr:Fr) (h:Heap):retOf K 82 k fr h=leaving 0 k h (resL Tryz.prog fr h [.cell 4 97]):=ret_of Tryz.func82 rfl rfl
theorem call_83:CallT 83 Tryz.f83:=fun _ _=>R_call rfl rfl (by decide +kernel) rfl Tryz.func83 rfl
@[go_sem] theorem ret_83 (k:Nat) (fr:Fr) (h:Heap):retOf K 83 k fr h=leaving 0 k h (resL Tryz.prog fr h [.tmp 4]):=ret_of Tryz.func83 rfl rfl
theorem call_88:CallT 88 Tryz.f88:=fun _ _=>R_call rfl rfl (by decide +kernel) rfl Tryz.func88 rfl
@[go_sem] theorem ret_88 (k:Nat) (fr:Fr) (h:Heap):retOf K 88 k fr h=leaving 0 k h (resL Tryz.prog fr h [.cell 4 97]):=ret_of Tryz.func88 rfl rfl
theorem call_89:CallT 89 Tryz.f89:=fun _ _=>R_call rfl rfl (by decide +kernel) rfl Tryz.func89 rfl
@[go_sem] theorem ret_89 (k:Nat) (fr:Fr) (h:Heap):retOf K 89 k fr h=leaving 0 k h (resL Tryz.prog fr h [.tmp 4]):=ret_of Tryz.func89 rfl rfl
theorem call_90:CallT 90 Tryz.f90:=fun _ _=>R_call rfl rfl (by decide +kernel) rfl Tryz.func90 rfl
@[go_sem] theorem ret_90 (k:Nat) (fr:Fr) (h:Heap):retOf K 90 k fr h=leaving 0 k h (resL Tryz.prog fr h [.cell 4 97]):=ret_of Tryz.func90 rfl rfl
theorem call_91:CallT 91 Tryz.f91:=fun _ _=>R_call rfl rfl (by decide +kernel) rfl Tryz.func91 rfl
@[go_sem] theorem ret_91 (k:Nat) (fr:Fr) (h:Heap):retOf K 91 k fr h=leaving 0 k h (resL Tryz.prog fr h [.tmp 4]):=ret_of Tryz.func91 rfl rfl
theorem call_92:CallT 92 Tryz.f92:=fun _ _=>R_call rfl rfl (by decide +kernel) rfl Tryz.func92 rfl
@[go_sem] theorem ret_92 (k:Nat) (fr:Fr) (h:Heap):retOf K 92 k fr h=leaving 0 k h (resL Tryz.prog fr h [.tmp 4]):=ret_of Tryz.func92 rfl rfl
theorem call_93:CallT 93 Tryz.f93:=fun _ _=>R_call rfl rfl (by decide +kernel) rfl Tryz.func93 rfl
@[go_sem] theorem ret_93 (k:Nat) (fr:Fr) (h:Heap):retOf K 93 k fr h=leaving 0 k h (resL Tryz.prog fr h [.tmp 4]):=ret_of Tryz.func93 rfl rfl
theorem call_94:CallT 94 Tryz.f94:=fun _ _=>R_call rfl rfl (by decide +kernel) rfl Tryz.func94 rfl
@[go_sem] theorem ret_94 (k:Nat) (fr:Fr) (h:Heap):retOf K 94 k fr h=leaving 0 k h (resL Tryz.prog fr h [.tmp 3]):=ret_of Tryz.func94 rfl rfl
theorem call_95:CallT 95 Tryz.f95:=fun _ _=>R_call rfl rfl (by decide +kernel) rfl Tryz.func95 rfl
@[go_sem] theorem ret_95 (k:Nat) (fr:Fr) (h:Heap):retOf K 95 k fr h=leaving 0 k h (resL Tryz.prog fr h [.cell 4 61]):=ret_of Tryz.func95 rfl rfl
theorem call_96:CallT 96 Tryz.f96:=fun _ _=>R_call rfl rfl (by decide +kernel) rfl Tryz.func96 rfl
@[go_sem] theorem ret_96 (k:Nat) (fr:Fr) (h:Heap):retOf K 96 k fr h=leaving 0 k h (resL Tryz.prog fr h [.tmp 2]):=ret_of Tryz.func96 rfl rfl
theorem call_97:CallT 97 Tryz.f97:=fun _ _=>R_call rfl rfl (by decide +kernel) rfl Tryz.func97 rfl
@[go_sem] theorem ret_97 (k:Nat) (fr:Fr) (h:Heap):retOf K 97 k fr h=leaving 0 k h (resL Tryz.prog fr h [.tmp 2]):=ret_of Tryz.func97 rfl rfl
theorem call_99:CallT 99 Tryz.f99:=fun _ _=>R_call rfl rfl (by decide +kernel) rfl Tryz.func99 rfl
@[go_sem] theorem ret_99 (k:Nat) (fr:Fr) (h:Heap):retOf K 99 k fr h=leaving 0 k h (resL Tryz.prog fr h [.tmp 6]):=ret_of Tryz.func99 rfl rfl
theorem call_100:CallT 100 Tryz.f100:=fun _ _=>R_call rfl rfl (by decide +kernel) rfl Tryz.func100 rfl
@[go_sem] theorem ret_100 (k:Nat) (fr:Fr) (h:Heap):retOf K 100 k fr h=leaving 0 k h (resL Tryz.prog fr h [.tmp 2]):=ret_of Tryz.func100 rfl rfl
theorem call_101:CallT 101 Tryz.f101:=fun _ _=>R_call rfl rfl (by decide +kernel) rfl Tryz.func101 rfl
@[go_sem] theorem ret_101 (k:Nat) (fr:Fr) (h:Heap):retOf K 101 k fr h=leaving 0 k h (resL Tryz.prog fr h [.tmp 1]):=ret_of Tryz.func101 rfl rfl
theorem call_102:CallT 102 Tryz.f102:=fun _ _=>R_call rfl rfl (by decide +kernel) rfl Tryz.func102 rfl
@[go_sem] theorem ret_102 (k:Nat) (fr:Fr) (h:Heap):retOf K 102 k fr h=leaving 0 k h (resL Tryz.prog fr h [.tmp 2]):=ret_of Tryz.func102 rfl rfl
theorem call_103:CallT 103 Tryz.f103:=fun _ _=>R_call rfl rfl (by decide +kernel) rfl Tryz.func103 rfl
@[go_sem] theorem ret_103 (k:Nat) (fr:Fr) (h:Heap):retOf K 103 k fr h=leaving 0 k h (resL Tryz.prog fr h [.tmp 1]):=ret_of Tryz.func103 rfl rfl
theorem call_104:CallT 104 Tryz.f104:=fun _ _=>R_call rfl rfl (by decide +kernel) rfl Tryz.func104 rfl
@[go_sem] theorem ret_104 (k:Nat) (fr:Fr) (h:Heap):retOf K 104 k fr h=leaving 0 k h (resL Tryz.prog fr h [.tmp 6]):=ret_of Tryz.func104 rfl rfl
theorem call_105:CallT 105 Tryz.f105:=fun _ _=>R_call rfl rfl (by decide +kernel) rfl Tryz.func105 rfl
@[go_sem] theorem ret_105 (k:Nat) (fr:Fr) (h:Heap):retOf K 105 k fr h=leaving 0 k h (resL Tryz.prog fr h [.tmp 2]):=ret_of Tryz.func105 rfl rfl
theorem call_106:CallT 106 Tryz.f106:=fun _ _=>R_call rfl rfl (by decide +kernel) rfl Tryz.func106 rfl
@[go_sem] theorem ret_106 (k:Nat) (fr:Fr) (h:Heap):retOf K 106 k fr h=leaving 0 k h (resL Tryz.prog fr h [.tmp 1]):=ret_of Tryz.func106 rfl rfl
theorem call_107:CallT 107 Tryz.f107:=fun _ _=>R_call rfl rfl (by decide +kernel) rfl Tryz.func107 rfl
@[go_sem] theorem ret_107 (k:Nat) (fr:Fr) (h:Heap):retOf K 107 k fr h=leaving 0 k h (resL Tryz.prog fr h [.tmp 3]):=ret_of Tryz.func107 rfl rfl
theorem call_108:CallT 108 Tryz.f108:=fun _ _=>R_call rfl rfl (by decide +kernel) rfl Tryz.func108 rfl
@[go_sem] theorem ret_108 (k:Nat) (fr:Fr) (h:Heap):retOf K 108 k fr h=leaving 0 k h (resL Tryz.prog fr h [.tmp 2]):=ret_of Tryz.func108 rfl rfl
theorem call_109:CallT 109 Tryz.f109:=fun _ _=>R_call rfl rfl (by decide +kernel) rfl Tryz.func109 rfl
@[go_sem] theorem ret_109 (k:Nat) (fr:Fr) (h:Heap):retOf K 109 k fr h=leaving 0 k h (resL Tryz.prog fr h [.tmp 2]):=ret_of Tryz.func109 rfl rfl
theorem call_110:CallT 110 Tryz.f110:=fun _ _=>R_call rfl rfl (by decide +kernel) rfl Tryz.func110 rfl
@[go_sem] theorem ret_110 (k:Nat) (fr:Fr) (h:Heap):retOf K 110 k fr h=leaving 0 k h (resL Tryz.prog fr h [.tmp 1]):=ret_of Tryz.func110 rfl rfl
theorem call_111:CallT 111 Tryz.f111:=fun _ _=>R_call rfl rfl (by decide +kernel) rfl Tryz.func111 rfl
@[go_sem] theorem ret_111 (k:Nat) (fr:Fr) (h:Heap):retOf K 111 k fr h=leaving 0 k h (resL Tryz.prog fr h [.tmp 3]):=ret_of Tryz.func111 rfl rfl
theorem call_112:CallT 112 Tryz.f112:=fun _ _=>R_call rfl rfl (by decide +kernel) rfl Tryz.func112 rfl
@[go_sem] theorem ret_112 (k:Nat) (fr:Fr) (h:Heap):retOf K 112 k fr h=leaving 0 k h (resL Tryz.prog fr h [.tmp 2]):=ret_of Tryz.func112 rfl rfl
theorem call_113:CallT 113 Tryz.f113:=fun _ _=>R_call rfl rfl (by decide +kernel) rfl Tryz.func113 rfl
@[go_sem] theorem ret_113 (k:Nat) (fr:Fr) (h:Heap):retOf K 113 k fr h=leaving 0 k h (resL Tryz.prog fr h [.tmp 4]):=ret_of Tryz.func113 rfl rfl
theorem call_114:CallT 114 Tryz.f114:=fun _ _=>R_call rfl rfl (by decide +kernel) rfl Tryz.func114 rfl
@[go_sem] theorem ret_114 (k:Nat) (fr:Fr) (h:Heap):retOf K 114 k fr h=leaving 0 k h (resL Tryz.prog fr h [.tmp 5]):=ret_of Tryz.func114 rfl rfl
theorem call_115:CallT 115 Tryz.f115:=fun _ _=>R_call rfl rfl (by decide +kernel) rfl Tryz.func115 rfl
@[go_sem] theorem ret_115 (k:Nat) (fr:Fr) (h:Heap):retOf K 115 k fr h=leaving 0 k h (resL Tryz.prog fr h [.tmp 4]):=ret_of Tryz.func115 rfl rfl
theorem call_116:CallT 116 Tryz.f116:=fun _ _=>R_call rfl rfl (by decide +kernel) rfl Tryz.func116 rfl
@[go_sem] theorem ret_116 (k:Nat) (fr:Fr) (h:Heap):retOf K 116 k fr h=leaving 0 k h (resL Tryz.prog fr h [.tmp 2]):=ret_of Tryz.func116 rfl rfl
theorem call_117:CallT 117 Tryz.f117:=fun _ _=>R_call rfl rfl (by decide +kernel) rfl Tryz.func117 rfl
@[go_sem] theorem ret_117 (k:Nat) (fr:Fr) (h:Heap):retOf K 117 k fr h=leaving 0 k h (resL Tryz.prog fr h [.tmp 2]):=ret_of Tryz.func117 rfl rfl
theorem call_119:CallT 119 Tryz.f119:=fun _ _=>R_call rfl rfl (by decide +kernel) rfl Tryz.func119 rfl
@[go_sem] theorem ret_119 (k:Nat) (fr:Fr) (h:Heap):retOf K 119 k fr h=leaving 0 k h (resL Tryz.prog fr h [.tmp 4]):=ret_of Tryz.func119 rfl rfl
theorem call_120:CallT 120 Tryz.f120:=fun _ _=>R_call rfl rfl (by decide +kernel) rfl Tryz.func120 rfl
@[go_sem] theorem ret_120 (k:Nat) (fr:Fr) (h:Heap):retOf K 120 k fr h=leaving 0 k h (resL Tryz.prog fr h [.tmp 4]):=ret_of Tryz.func120 rfl rfl
theorem call_121:CallT 121 Tryz.f121:=fun _ _=>R_call rfl rfl (by decide +kernel) rfl Tryz.func121 rfl
@[go_sem] theorem ret_121 (k:Nat) (fr:Fr) (h:Heap):retOf K 121 k fr h=leaving 0 k h (resL Tryz.prog fr h [.tmp 4]):=ret_of Tryz.func121 rfl rfl
theorem call_122:CallT 122 Tryz.f122:=fun _ _=>R_call rfl rfl (by decide +kernel) rfl Tryz.func122 rfl
@[go_sem] theorem ret_122 (k:Nat) (fr:Fr) (h:Heap):retOf K 122 k fr h=leaving 0 k h (resL Tryz.prog fr h [.tmp 3]):=ret_of Tryz.func122 rfl rfl
theorem call_124:CallT 124 Tryz.f124:=fun _ _=>R_call rfl rfl (by decide +kernel) rfl Tryz.func124 rfl
@[go_sem] theorem ret_124 (k:Nat) (fr:Fr) (h:Heap):retOf K 124 k fr h=leaving 0 k h (resL Tryz.prog fr h [.tmp 2]):=ret_of Tryz.func124 rfl rfl
theorem call_171:CallT 171 Tryz.f171:=fun _ _=>R_call rfl rfl (by decide +kernel) rfl Tryz.func171 rfl
@[go_sem] theorem ret_171 (k:Nat) (fr:Fr) (h:Heap):retOf K 171 k fr h=leaving 0 k h (resL Tryz.prog fr h [.tmp 4]):=ret_of Tryz.func171 rfl rfl
theorem call_172:CallT 172 Tryz.f172:=fun _ _=>R_call rfl rfl (by decide +kernel) rfl Tryz.func172 rfl
@[go_sem] theorem ret_172 (k:Nat) (fr:Fr) (h:Heap):retOf K 172 k fr h=leaving 0 k h (resL Tryz.prog fr h [.tmp 2]):=ret_of Tryz.func172 rfl rfl
theorem call_173:CallT 173 Tryz.f173:=fun _ _=>R_call rfl rfl (by decide +kernel) rfl Tryz.func173 rfl
@[go_sem] theorem ret_173 (k:Nat) (fr:Fr) (h:Heap):retOf K 173 k fr h=leaving 0 k h (resL Tryz.prog fr h [.tmp 2]):=ret_of Tryz.func173 rfl rfl
theorem call_174:CallT 174 Tryz.f174:=fun _ _=>R_call rfl rfl (by decide +kernel) rfl Tryz.func174 rfl
@[go_sem] theorem ret_174 (k:Nat) (fr:Fr) (h:Heap):retOf K 174 k fr h=leaving 0 k h (resL Tryz.prog fr h [.tmp 4]):=ret_of Tryz.func174 rfl rfl
theorem call_175:CallT 175 Tryz.f175:=fun _ _=>R_call rfl rfl (by decide +kernel) rfl Tryz.func175 rfl
@[go_sem] theorem ret_175 (k:Nat) (fr:Fr) (h:Heap):retOf K 175 k fr h=leaving 0 k h (resL Tryz.prog fr h [.cell 4 61]):=ret_of Tryz.func175 rfl rfl
theorem call_188:CallT 188 Tryz.f188:=fun _ _=>R_call rfl rfl (by decide +kernel) rfl Tryz.func188 rfl
@[go_sem] theorem ret_188 (k:Nat) (fr:Fr) (h:Heap):retOf K 188 k fr h=leaving 0 k h (resL Tryz.prog fr h [.tmp 2]):=ret_of Tryz.func188 rfl rfl
theorem call_189:CallT 189 Tryz.f189:=fun _ _=>R_call rfl rfl (by decide +kernel) rfl Tryz.func189 rfl
@[go_sem] theorem ret_189 (k:Nat) (fr:Fr) (h:Heap):retOf K 189 k fr h=leaving 0 k h (resL Tryz.prog fr h [.tmp 4]):=ret_of Tryz.func189 rfl rfl
theorem call_190:CallT 190 Tryz.f190:=fun _ _=>R_call rfl rfl (by decide +kernel) rfl Tryz.func190 rfl
@[go_sem] theorem ret_190 (k:Nat) (fr:Fr) (h:Heap):retOf K 190 k fr h=leaving 0 k h (resL Tryz.prog fr h [.cell 4 61]):=ret_of Tryz.func190 rfl rfl
theorem call_191:CallT 191 Tryz.f191:=fun _ _=>R_call rfl rfl (by decide +kernel) rfl Tryz.func191 rfl
@[go_sem] theorem ret_191 (k:Nat) (fr:Fr) (h:Heap):retOf K 191 k fr h=leaving 0 k h (resL Tryz.prog fr h [.cell 4 61]):=ret_of Tryz.func191 rfl rfl
theorem call_196:CallT 196 Tryz.f196:=fun _ _=>R_call rfl rfl (by decide +kernel) rfl Tryz.func196 rfl
@[go_sem] theorem ret_196 (k:Nat) (fr:Fr) (h:Heap):retOf K 196 k fr h=leaving 0 k h (resL Tryz.prog fr h [.tmp 2]):=ret_of Tryz.func196 rfl rfl
theorem call_197:CallT 197 Tryz.f197:=fun _ _=>R_call rfl rfl (by decide +kernel) rfl Tryz.func197 rfl
@[go_sem] theorem ret_197 (k:Nat) (fr:Fr) (h:Heap):retOf K 197 k fr h=leaving 0 k h (resL Tryz.prog fr h [.tmp 3]):=ret_of Tryz.func197 rfl rfl
theorem call_198:CallT 198 Tryz.f198:=fun _ _=>R_call rfl rfl (by decide +kernel) rfl Tryz.func198 rfl
@[go_sem] theorem ret_198 (k:Nat) (fr:Fr) (h:Heap):retOf K 198 k fr h=leaving 0 k h (resL Tryz.prog fr h [.tmp 6]):=ret_of Tryz.func198 rfl rfl
theorem call_199:CallT 199 Tryz.f199:=fun _ _=>R_call rfl rfl (by decide +kernel) rfl Tryz.func199 rfl
@[go_sem] theorem ret_199 (k:Nat) (fr:Fr) (h:Heap):retOf K 199 k fr h=leaving 0 k h (resL Tryz.prog fr h [.tmp 4]):=ret_of Tryz.func199 rfl rfl
theorem call_200:CallT 200 Tryz.f200:=fun _ _=>R_call rfl rfl (by decide +kernel) rfl Tryz.func200 rfl
@[go_sem] theorem ret_200 (k:Nat) (fr:Fr) (h:Heap):retOf K 200 k fr h=leaving 0 k h (resL Tryz.prog fr h [.tmp 5]):=ret_of Tryz.func200 rfl rfl
theorem call_201:CallT 201 Tryz.f201:=fun _ _=>R_call rfl rfl (by decide +kernel) rfl Tryz.func201 rfl
@[go_sem] theorem ret_201 (k:Nat) (fr:Fr) (h:Heap):retOf K 201 k fr h=leaving 0 k h (resL Tryz.prog fr h [.tmp 3]):=ret_of Tryz.func201 rfl rfl
theorem call_202:CallT 202 Tryz.f202:=fun _ _=>R_call rfl rfl (by decide +kernel) rfl Tryz.func202 rfl
@[go_sem] theorem ret_202 (k:Nat) (fr:Fr) (h:Heap):retOf K 202 k fr h=leaving 0 k h (resL Tryz.prog fr h [.tmp 3]):=ret_of Tryz.func202 rfl rfl
theorem call_204:CallT 204 Tryz.f204:=fun _ _=>R_call rfl rfl (by decide +kernel) rfl Tryz.func204 rfl
@[go_sem] theorem ret_204 (k:Nat) (fr:Fr) (h:Heap):retOf K 204 k fr h=leaving 0 k h (resL Tryz.prog fr h [.cell 2 61]):=ret_of Tryz.func204 rfl rfl
theorem call_208:CallT 208 Tryz.f208:=fun _ _=>R_call rfl rfl (by decide +kernel) rfl Tryz.func208 rfl
@[go_sem] theorem ret_208 (k:Nat) (fr:Fr) (h:Heap):retOf K 208 k fr h=leaving 0 k h (resL Tryz.prog fr h [.tmp 2]):=ret_of Tryz.func208 rfl rfl
theorem call_209:CallT 209 Tryz.f209:=fun _ _=>R_call rfl rfl (by decide +kernel) rfl Tryz.func209 rfl
@[go_sem] theorem ret_209 (k:Nat) (fr:Fr) (h:Heap):retOf K 209 k fr h=leaving 0 k h (resL Tryz.prog fr h [.tmp 6]):=ret_of Tryz.func209 rfl rfl
theorem call_210:CallT 210 Tryz.f210:=fun _ _=>R_call rfl rfl (by decide +kernel) rfl Tryz.func210 rfl
@[go_sem] theorem ret_210 (k:Nat) (fr:Fr) (h:Heap):retOf K 210 k fr h=leaving 0 k h (resL Tryz.prog fr h [.tmp 4]):=ret_of Tryz.func210 rfl rfl
theorem call_212:CallT 212 Tryz.f212:=fun _ _=>R_call rfl rfl (by decide +kernel) rfl Tryz.func212 rfl
@[go_sem] theorem ret_212 (k:Nat) (fr:Fr) (h:Heap):retOf K 212 k fr h=leaving 0 k h (resL Tryz.prog fr h [.tmp 0]):=ret_of Tryz.func212 rfl rfl
theorem call_213:CallT 213 Tryz.f213:=fun _ _=>R_call rfl rfl (by decide +kernel) rfl Tryz.func213 rfl
@[go_sem] theorem ret_213 (k:Nat) (fr:Fr) (h:Heap):retOf K 213 k fr h=leaving 0 k h (resL Tryz.prog fr h [.tmp 2]):=ret_of Tryz.func213 rfl rfl
theorem call_280:CallT 280 Tryz.f280:=fun _ _=>R_call rfl rfl (by decide +kernel) rfl Tryz.func280 rfl
@[go_sem] theorem ret_280 (k:Nat) (fr:Fr) (h:Heap):retOf K 280 k fr h=leaving 0 k h (resL Tryz.prog fr h [.cell 2 61,.tmp 3]):=ret_of Tryz.func280 rfl rfl
theorem call_287:CallT 287 Tryz.f287:=fun _ _=>R_call rfl rfl (by decide +kernel) rfl Tryz.func287 rfl
@[go_sem] theorem ret_287 (k:Nat) (fr:Fr) (h:Heap):retOf K 287 k fr h=leaving 0 k h (resL Tryz.prog fr h [.cell 2 61,.tmp 3]):=ret_of Tryz.func287 rfl rfl
theorem call_291:CallT 291 Tryz.f291:=fun _ _=>R_call rfl rfl (by decide +kernel) rfl Tryz.func291 rfl
@[go_sem] theorem ret_291 (k:Nat) (fr:Fr) (h:Heap):retOf K 291 k fr h=leaving 0 k h (resL Tryz.prog fr h [.tmp 2]):=ret_of Tryz.func291 rfl rfl
theorem call_292:CallT 292 Tryz.f292:=fun _ _=>R_call rfl rfl (by decide +kernel) rfl Tryz.func292 rfl
@[go_sem] theorem ret_292 (k:Nat) (fr:Fr) (h:Heap):retOf K 292 k fr h=leaving 0 k h (resL Tryz.prog fr h [.tmp 6]):=ret_of Tryz.func292 rfl rfl
theorem call_293:CallT 293 Tryz.f293:=fun _ _=>R_call rfl rfl (by decide +kernel) rfl Tryz.func293 rfl
@[go_sem] theorem ret_293 (k:Nat) (fr:Fr) (h:Heap):retOf K 293 k fr h=leaving 0 k h (resL Tryz.prog fr h [.tmp 2]):=ret_of Tryz.func293 rfl rfl
theorem call_294:CallT 294 Tryz.f294:=fun _ _=>R_call rfl rfl (by decide +kernel) rfl Tryz.func294 rfl
@[go_sem] theorem ret_294 (k:Nat) (fr:Fr) (h:Heap):retOf K 294 k fr h=leaving 0 k h (resL Tryz.prog fr h [.tmp 2]):=ret_of Tryz.func294 rfl rfl
theorem call_297:CallT 297 Tryz.f297:=fun _ _=>R_call rfl rfl (by decide +kernel) rfl Tryz.func297 rfl
@[go_sem] theorem ret_297 (k:Nat) (fr:Fr) (h:Heap):retOf K 297 k fr h=leaving 0 k h (resL Tryz.prog fr h [.tmp 2]):=ret_of Tryz.func297 rfl rfl
theorem call_301:CallT 301 Tryz.f301:=fun _ _=>R_call rfl rfl (by decide +kernel) rfl Tryz.func301 rfl
@[go_sem] theorem ret_301 (k:Nat) (fr:Fr) (h:Heap):retOf K 301 k fr h=leaving 0 k h (resL Tryz.prog fr h [.cell 2 328]):=ret_of Tryz.func301 rfl rfl
theorem call_302:CallT 302 Tryz.f302:=fun _ _=>R_call rfl rfl (by decide +kernel) rfl Tryz.func302 rfl
@[go_sem] theorem ret_302 (k:Nat) (fr:Fr) (h:Heap):retOf K 302 k fr h=leaving 0 k h (resL Tryz.prog fr h [.tmp 4]):=ret_of Tryz.func302 rfl rfl
theorem call_303:CallT 303 Tryz.f303:=fun _ _=>R_call rfl rfl (by decide +kernel) rfl Tryz.func303 rfl
@[go_sem] theorem ret_303 (k:Nat) (fr:Fr) (h:Heap):retOf K 303 k fr h=leaving 0 k h (resL Tryz.prog fr h [.tmp 2]):=ret_of Tryz.func303 rfl rfl
theorem call_304:CallT 304 Tryz.f304:=fun _ _=>R_call rfl rfl (by decide +kernel) rfl Tryz.func304 rfl
@[go_sem] theorem ret_304 (k:Nat) (fr:Fr) (h:Heap):retOf K 304 k fr h=leaving 0 k h (resL Tryz.prog fr h [.cell 2 61]):=ret_of Tryz.func304 rfl rfl
theorem call_305:CallT 305 Tryz.f305:=fun _ _=>R_call rfl rfl (by decide +kernel) rfl Tryz.func305 rfl
@[go_sem] theorem ret_305 (k:Nat) (fr:Fr) (h:Heap):retOf K 305 k fr h=leaving 0 k h (resL Tryz.prog fr h [.tmp 2]):=ret_of Tryz.func305 rfl rfl
theorem call_377:CallT 377 Tryz.f377:=fun _ _=>R_call rfl rfl (by decide +kernel) rfl Tryz.func377 rfl
@[go_sem] theorem ret_377 (k:Nat) (fr:Fr) (h:Heap):retOf K 377 k fr h=leaving 0 k h (resL Tryz.prog fr h [.cell 2 61]):=ret_of Tryz.func377 rfl rfl
theorem call_381:CallT 381 Tryz.f381:=fun _ _=>R_call rfl rfl (by decide +kernel) rfl Tryz.func381 rfl
@[go_sem] theorem ret_381 (k:Nat) (fr:Fr) (h:Heap):retOf K 381 k fr h=leaving 1 k h (resL Tryz.prog fr h [.tmp 2]):=ret_of Tryz.func381 rfl rfl
theorem call_385:CallT 385 Tryz.f385:=fun _ _=>R_call rfl rfl (by decide +kernel) rfl Tryz.func385 rfl
@[go_sem] theorem ret_385 (k:Nat) (fr:Fr) (h:Heap):retOf K 385 k fr h=leaving 0 k h (resL Tryz.prog fr h [.tmp 2]):=ret_of Tryz.func385 rfl rfl
theorem call_386:CallT 386 Tryz.f386:=fun _ _=>R_call rfl rfl (by decide +kernel) rfl Tryz.func386 rfl
@[go_sem] theorem ret_386 (k:Nat) (fr:Fr) (h:Heap):retOf K 386 k fr h=leaving 0 k h (resL Tryz.prog fr h [.tmp 4]):=ret_of Tryz.func386 rfl rfl
theorem call_387:CallT 387 Tryz.f387:=fun _ _=>R_call rfl rfl (by decide +kernel) rfl Tryz.func387 rfl
@[go_sem] theorem ret_387 (k:Nat) (fr:Fr) (h:Heap):retOf K 387 k fr h=leaving 0 k h (resL Tryz.prog fr h [.tmp 2]):=ret_of Tryz.func387 rfl rfl
theorem call_388:CallT 388 Tryz.f388:=fun _ _=>R_call rfl rfl (by decide +kernel) rfl Tryz.func388 rfl
@[go_sem] theorem ret_388 (k:Nat) (fr:Fr) (h:Heap):retOf K 388 k fr h=leaving 0 k h (resL Tryz.prog fr h [.cell 2 328]):=ret_of Tryz.func388 rfl rfl
theorem call_389:CallT 389 Tryz.f389:=fun _ _=>R_call rfl rfl (by decide +kernel) rfl Tryz.func389 rfl
@[go_sem] theorem ret_389 (k:Nat) (fr:Fr) (h:Heap):retOf K 389 k fr h=leaving 0 k h (resL Tryz.prog fr h [.tmp 4]):=ret_of Tryz.func389 rfl rfl
theorem call_421:CallT 421 Tryz.f421:=fun _ _=>R_call rfl rfl (by decide +kernel) rfl Tryz.func421 rfl
@[go_sem] theorem ret_421 (k:Nat) (fr:Fr) (h:Heap):retOf K 421 k fr h=leaving 0 k h (resL Tryz.prog fr h [.cell 2 61]):=ret_of Tryz.func421 rfl rfl
theorem call_422:CallT 422 Tryz.f422:=fun _ _=>R_call rfl rfl (by decide +kernel) rfl Tryz.func422 rfl
@[go_sem] theorem ret_422 (k:Nat) (fr:Fr) (h:Heap):retOf K 422 k fr h=leaving 0 k h (resL Tryz.prog fr h [.cell 2 61]):=ret_of Tryz.func422 rfl rfl
theorem call_425:CallT 425 Tryz.f425:=fun _ _=>R_call rfl rfl (by decide +kernel) rfl Tryz.func425 rfl
@[go_sem] theorem ret_425 (k:Nat) (fr:Fr) (h:Heap):retOf K 425 k fr h=leaving 0 k h (resL Tryz.prog fr h [.cell 2 61]):=ret_of Tryz.func425 rfl rfl
theorem call_426:CallT 426 Tryz.f426:=fun _ _=>R_call rfl rfl (by decide +kernel) rfl Tryz.func426 rfl
@[go_sem] theorem ret_426 (k:Nat) (fr:Fr) (h:Heap):retOf K 426 k fr h=leaving 0 k h (resL Tryz.prog fr h [.cell 2 61]):=ret_of Tryz.func426 rfl rfl
theorem call_427:CallT 427 Tryz.f427:=fun _ _=>R_call rfl rfl (by decide +kernel) rfl Tryz.func427 rfl
@[go_sem] theorem ret_427 (k:Nat) (fr:Fr) (h:Heap):retOf K 427 k fr h=leaving 0 k h (resL Tryz.prog fr h [.cell 2 61]):=ret_of Tryz.func427 rfl rfl
theorem call_428:CallT 428 Tryz.f428:=fun _ _=>R_call rfl rfl (by decide +kernel) rfl Tryz.func428 rfl
@[go_sem] theorem ret_428 (k:Nat) (fr:Fr) (h:Heap):retOf K 428 k fr h=leaving 0 k h (resL Tryz.prog fr h [.cell 2 61,.tmp 3]):=ret_of Tryz.func428 rfl rfl
theorem call_436:CallT 436 Tryz.f436:=fun _ _=>R_call rfl rfl (by decide +kernel) rfl Tryz.func436 rfl
@[go_sem] theorem ret_436 (k:Nat) (fr:Fr) (h:Heap):retOf K 436 k fr h=leaving 0 k h (resL Tryz.prog fr h [.tmp 2]):=ret_of Tryz.func436 rfl rfl
theorem call_437:CallT 437 Tryz.f437:=fun _ _=>R_call rfl rfl (by decide +kernel) rfl Tryz.func437 rfl
@[go_sem] theorem ret_437 (k:Nat) (fr:Fr) (h:Heap):retOf K 437 k fr h=leaving 0 k h (resL Tryz.prog fr h [.tmp 2]):=ret_of Tryz.func437 rfl rfl
theorem call_438:CallT 438 Tryz.f438:=fun _ _=>R_call rfl rfl (by decide +kernel) rfl Tryz.func438 rfl
@[go_sem] theorem ret_438 (k:Nat) (fr:Fr) (h:Heap):retOf K 438 k fr h=leaving 0 k h (resL Tryz.prog fr h [.tmp 4]):=ret_of Tryz.func438 rfl rfl
theorem call_467:CallT 467 Tryz.f467:=fun _ _=>R_call rfl rfl (by decide +kernel) rfl Tryz.func467 rfl
@[go_sem] theorem ret_467 (k:Nat) (fr:Fr) (h:Heap):retOf K 467 k fr h=leaving 0 k h (resL Tryz.prog fr h [.cell 12 61]):=ret_of Tryz.func467 rfl rfl
theorem call_470:CallT 470 Tryz.f470:=fun _ _=>R_call rfl rfl (by decide +kernel) rfl Tryz.func470 rfl
@[go_sem] theorem ret_470 (k:Nat) (fr:Fr) (h:Heap):retOf K 470 k fr h=leaving 0 k h (resL Tryz.prog fr h [.cell 12 61]):=ret_of Tryz.func470 rfl rfl
theorem call_476:CallT 476 Tryz.f476:=fun _ _=>R_call rfl rfl (by decide +kernel) rfl Tryz.func476 rfl
@[go_sem] theorem ret_476 (k:Nat) (fr:Fr) (h:Heap):retOf K 476 k fr h=leaving 0 k h (resL Tryz.prog fr h [.tmp 2]):=ret_of Tryz.func476 rfl rfl
theorem call_480:CallT 480 Tryz.f480:=fun _ _=>R_call rfl rfl (by decide +kernel) rfl Tryz.func480 rfl
@[go_sem] theorem ret_480 (k:Nat) (fr:Fr) (h:Heap):retOf K 480 k fr h=leaving 0 k h (resL Tryz.prog fr h [.cell 4 61]):=ret_of Tryz.func480 rfl rfl
theorem call_486:CallT 486 Tryz.f486:=fun _ _=>R_call rfl rfl (by decide +kernel) rfl Tryz.func486 rfl
@[go_sem] theorem ret_486 (k:Nat) (fr:Fr) (h:Heap):retOf K 486 k fr h=leaving 0 k h (resL Tryz.prog fr h [.cell 2 61]):=ret_of Tryz.func486 rfl rfl
end Go.Ab
namespace Go.Ab
open Go Go.Proofs
attribute [go_sem] R_pst popR_nil popR_cell popR_row popR_new popR_tidy popR_whenF popR_whenN popP_mk R_seq R_cond R_exit R_ret R_end R_blk R_skip onUnw_some outOf_none onCond_true onCond_false get_eq get_ne put_some put_none ev_tmp ev_const ev_func
attribute [go_sem] stepO stepD stepQ stepA isQ quietOp alo fill numA plOf Go.Ab.alloc cellsOf single singles vunit val aLoad part pieces purify purifyL purifyK purifyKL pur purA sliceOf callOp callOpD callD afterD evs callBy afterPure slotOf getO aUn pick aStr aStore buildV fillBy splice fieldA fieldV addOff aBin isConst aInt eqOp yesO notO leaving guardU resL resV tupOf locs locsL locsH locsB locsF leaveR leave leaveL leaveG leaveGL leaveRows orRows leave1 leave2 leave3 keptA locsR renR ofVal ofVals entry placeOf eqV eqCells eqCell unwind onLoop onRound owned frz restr builtinD tk? lenV indexS indexP rowOk minV minI maxV maxI extractV convertV nilCheckV sliceS sliceV sliceR sliceArr List.length_replicate bounds2 high low bound evo rowsOf appendV appendTo firstConst freshOf List.length_map allLen cut touchesQ touches touchesCall clears List.any_cons List.contains_nil List.contains_cons lookupV mapSet mapNew noKey insA ltKey keyFit intsB capV nilOf nilEq heapC nilC orV nilOr freshZ pstOf frzC ownAt isF lastN frzR newR renF tidy tidyBy findA keyEq keyOk mapPut entriesOf lookRes Int.ofNat_eq_natCast Int.cast_ofNat_Int
@[go_sem] theorem appendX_own {el:Option TypeId} {wq:Bool} {h:Heap} {z b l n:Nat} {ys:List (List AV)}:appendX el wq h z b ys (.own l n)=appendTo wq h z b (.own l n) ys:=rfl
@[go_sem] theorem appendX_nils {el:Option TypeId} {wq:Bool} {h:Heap} {z b:Nat} {ys:List (List AV)}:appendX el wq h z b ys .nils=appendTo wq h z b .nils ys:=rfl
@[go_sem] theorem appendX_lit {el:Option TypeId} {wq:Bool} {h:Heap} {z b:Nat} {rs ys:List (List AV)}:appendX el wq h z b ys (.lit rs)=appendTo wq h z b (.lit rs) ys:=rfl
@[go_sem] theorem appendX_rows {el:Option TypeId} {wq:Bool} {h:Heap} {z b:Nat} {rs ys:List (List AV)}:appendX el wq h z b ys (.rows rs)=appendTo wq h z b (.rows rs) ys:=rfl
@[go_sem] theorem appendX_town {t:TypeId} {wq:Bool} {h:Heap} {z b l n:Nat} {ys:List (List AV)}:appendX (some t) wq h z b ys (.town t l n)=tyO t (appendTo wq h z b (.own l n) ys):=by simp [appendX]
@[go_sem] theorem tyO_own {t:TypeId} {l n:Nat} {h:Heap}:tyO t (some (.own l n,h))=some (.town t l n,h):=rfl
@[go_sem] theorem allocT_no {t:TypeId} {r:Option (AV×Heap)}:allocT false t r=r:=rfl
@[go_sem] theorem allocT_yes {t:TypeId} {l o:Nat} {h:Heap}:allocT true t (some (.ptr l o,h))=some (.tptr t l o,h):=rfl
@[go_sem] theorem callV_fn {nl:FuncId→Bool} {F:Tk→Res} {h:Heap} {args caps:List AV} {g:FuncId}:callV nl F h args (.fn g caps)=callBy F g h (args++caps) (purA (nl g) h (args++caps)):=rfl
@[go_sem] theorem callV_bnd {nl:FuncId→Bool} {F:Tk→Res} {h:Heap} {args fs:List AV} {g:FuncId}:callV nl F h args (.bnd g fs)=callBy F g h (fs++args) (purA (nl g) h (fs++args)):=rfl
attribute [go_sem] appendS
@[go_sem] theorem K_nlA:K.nlA=nlA:=rfl
@[go_sem] theorem K_post:K.post=post:=rfl
attribute [go_sem] nlA post
theorem clears_chg {dy:List (Nat×Nat)} {i:Nat} {fr:Fr} {h h':Heap} {T:List Nat} (e:clears dy i fr T=true):clears dy i fr (chg h h' T)=true:=by
 have sub:∀ (T:List Nat) (l:Nat),l∈chg h h' T→l∈T:=fun T l=>by
  induction T with
  | nil=>simp [chg]
  | cons x r ih =>
   simp only [chg]
   split
   ·exact fun hx=>List.mem_cons_of_mem _ (ih hx)
   ·intro hx
    rcases List.mem_cons.1 hx with rfl | hx
    ·simp
    ·exact List.mem_cons_of_mem _ (ih hx)
 induction dy with
 | nil=>rfl
 | cons a r ih =>
  obtain ⟨j,s⟩:=a
  simp only [clears,Bool.and_eq_true] at e ⊢
  refine ⟨?_,ih e.2⟩
  have e1:=e.1
  by_cases hj:j=i
  ·simp only [hj,if_true,Bool.not_eq_true',List.any_eq_false,List.contains_iff_mem] at e1 ⊢
   exact fun l hl hx=>e1 l hl (sub T l hx)
  ·simp only [hj,if_false]
@[go_sem] theorem clearAll_none {dy:List (Nat×Nat)} {fr:Fr}:clearAll dy fr []=true:=rfl
@[go_sem] theorem clearAll_chg {dy:List (Nat×Nat)} {fr:Fr} {i:Nat} {h h':Heap} {T:List Nat} {r:List (Nat×List Nat)}:clearAll dy fr ((i,chg h h' T)::r)=((clears dy i fr T||clears dy i fr (chg h h' T))&&clearAll dy fr r):=by
 simp only [clearAll]
 cases hc:clears dy i fr T with
 | false=>simp
 | true=>simp [clears_chg hc]
@[go_sem] theorem orBuild_some {h:Heap} {r:Option (AV×Heap)} {v:AV}:orBuild h r (some v)=some (v,h):=rfl
@[go_sem] theorem orBuild_none {h:Heap} {ev:Operand→AV} {n z b:Nat} {ps:List (Nat×Operand)}:orBuild h (buildN h ev n ps (some (z,b))) none=sliceN n z h (piecesN h ev z 0 ps):=rfl
attribute [go_sem] sliceN piecesN
@[go_sem] theorem under_nil (n:Nat):under n []=true:=rfl
@[go_sem] theorem under_cons (n l:Nat) (r:List Nat):(under n (l::r)=true)=(l < n∧under n r=true):=by simp [under]
@[go_sem] theorem outOf_cut {F:Tk→Res} {f k n:Nat} {ks:List It} {fr:Fr} {h:Heap} {l:List Nat}:outOf F f k ks n fr h (some l)=if k≤n∧(under n (locsF (restr fr l))=true∧under n (locsH (h.take n))=true) then F (.run f k ks (restr fr l) (h.take n)) else F (.run f k ks (restr fr l) h):=by
 simp [outOf]
@[go_sem] theorem onTurn_some {F:Tk→Res} {f k n:Nat} {ks:List It} {fr:Fr} {h:Heap} {c:Code} {live:List Nat×List Nat}:onTurn F f k ks c live n (some (fr,h))=if k≤n∧(under n (locsF fr)=true∧under n (locsH (h.take n))=true) then F (.run f k (.code c::.lp c (some live) n::ks) fr (h.take n)) else F (.run f k (.code c::.lp c (some live) n::ks) fr h):=by
 simp [onTurn]
attribute [go_sem] List.size_toArray Array.size_empty Option.getD_some Nat.zero_add Nat.add_zero List.length_nil List.length_cons List.length_append List.nil_append List.append_nil List.cons_append List.getElem?_cons_zero List.getElem?_cons_succ List.getElem?_nil List.getElem?_toArray beq_iff_eq List.take_zero List.take_succ_cons List.take_nil List.drop_zero List.drop_succ_cons List.drop_nil List.set_cons_zero List.set_cons_succ List.length_set List.replicate_zero List.replicate_succ List.any_nil Bool.not_false Bool.not_true Bool.and_true Bool.true_and Bool.and_false Bool.false_and Bool.or_true Bool.or_false Bool.true_or Bool.false_or Bool.and_self Bool.false_eq_true if_true if_false ite_true ite_false cond_true cond_false decide_true decide_false decide_eq_true_eq and_self and_true true_and and_false false_and Option.some.injEq AV.bool.injEq Nat.le_refl
end Go.Ab
