/- What is proved: facts by program on types and code, for rewriting. What is proved: nothing new; rules for rewriting are gathered. Conditions: none. -/
import Derived.Test.YtdhobhodbficjaaGreatDoorMS
import Derived.Test.YtdhobhodbficjaaGreatDoorMX4
set_option linter.unusedSimpArgs false
set_option linter.unusedVariables false
namespace Go.Ab
open Go Go.Proofs
set_option maxRecDepth 100000
@[go_sem] theorem K_P:K.P=Tryz.prog:=rfl
@[go_sem] theorem K_bT:K.bT=67:=rfl
@[go_sem] theorem wrT_22:wrOf K (some 22)=true:=rfl
@[go_sem] theorem wrE_22 (xs:List AV):wrLit K (some 22) xs=false:=rfl
@[go_sem] theorem wrT_28:wrOf K (some 28)=true:=rfl
@[go_sem] theorem wrE_28 (xs:List AV):wrLit K (some 28) xs=false:=rfl
@[go_sem] theorem wrT_30:wrOf K (some 30)=false:=rfl
@[go_sem] theorem wrE_30 (xs:List AV):wrLit K (some 30) xs=false:=rfl
@[go_sem] theorem wrT_36:wrOf K (some 36)=false:=rfl
@[go_sem] theorem wrE_36 (xs:List AV):wrLit K (some 36) xs=false:=rfl
@[go_sem] theorem wrT_38:wrOf K (some 38)=false:=rfl
@[go_sem] theorem wrE_38 (xs:List AV):wrLit K (some 38) xs=false:=rfl
@[go_sem] theorem wrT_41:wrOf K (some 41)=false:=rfl
@[go_sem] theorem wrE_41 (xs:List AV):wrLit K (some 41) xs=false:=rfl
@[go_sem] theorem wrT_42:wrOf K (some 42)=false:=rfl
@[go_sem] theorem wrE_42 (xs:List AV):wrLit K (some 42) xs=false:=rfl
@[go_sem] theorem wrT_65:wrOf K (some 65)=false:=rfl
@[go_sem] theorem wrE_65 (xs:List AV):wrLit K (some 65) xs=false:=rfl
@[go_sem] theorem wrT_77:wrOf K (some 77)=true:=rfl
@[go_sem] theorem wrE_77 (xs:List AV):wrLit K (some 77) xs=false:=rfl
@[go_sem] theorem wrT_78:wrOf K (some 78)=true:=rfl
@[go_sem] theorem wrE_78 (xs:List AV):wrLit K (some 78) xs=false:=rfl
@[go_sem] theorem wrT_86:wrOf K (some 86)=false:=rfl
@[go_sem] theorem wrE_86 (xs:List AV):wrLit K (some 86) xs=false:=rfl
@[go_sem] theorem wrT_96:wrOf K (some 96)=false:=rfl
@[go_sem] theorem wrE_96 (xs:List AV):wrLit K (some 96) xs=false:=rfl
@[go_sem] theorem wrT_126:wrOf K (some 126)=false:=rfl
@[go_sem] theorem wrE_126 (xs:List AV):wrLit K (some 126) xs=false:=rfl
@[go_sem] theorem wrT_147:wrOf K (some 147)=false:=rfl
@[go_sem] theorem wrE_147 (xs:List AV):wrLit K (some 147) xs=false:=rfl
@[go_sem] theorem wrT_152:wrOf K (some 152)=true:=rfl
@[go_sem] theorem wrE_152 (xs:List AV):wrLit K (some 152) xs=false:=rfl
@[go_sem] theorem wrT_154:wrOf K (some 154)=false:=rfl
@[go_sem] theorem wrE_154 (xs:List AV):wrLit K (some 154) xs=false:=rfl
@[go_sem] theorem wrT_156:wrOf K (some 156)=false:=rfl
@[go_sem] theorem wrE_156 (xs:List AV):wrLit K (some 156) xs=false:=rfl
@[go_sem] theorem wrT_181:wrOf K (some 181)=false:=rfl
@[go_sem] theorem wrE_181 (xs:List AV):wrLit K (some 181) xs=false:=rfl
@[go_sem] theorem wrT_262:wrOf K (some 262)=false:=rfl
@[go_sem] theorem wrE_262 (xs:List AV):wrLit K (some 262) xs=false:=rfl
@[go_sem] theorem wrT_285:wrOf K (some 285)=false:=rfl
@[go_sem] theorem wrE_285 (xs:List AV):wrLit K (some 285) xs=false:=rfl
@[go_sem] theorem wrT_308:wrOf K (some 308)=false:=rfl
@[go_sem] theorem wrE_308 (xs:List AV):wrLit K (some 308) xs=false:=rfl
@[go_sem] theorem nlT_22:K.nlT 22=false:=rfl
@[go_sem] theorem wrB_22:K.wrB 22=false:=rfl
@[go_sem] theorem nlT_28:K.nlT 28=false:=rfl
@[go_sem] theorem wrB_28:K.wrB 28=false:=rfl
@[go_sem] theorem nlT_29:K.nlT 29=false:=rfl
@[go_sem] theorem wrB_29:K.wrB 29=false:=rfl
@[go_sem] theorem nlT_30:K.nlT 30=false:=rfl
@[go_sem] theorem wrB_30:K.wrB 30=false:=rfl
@[go_sem] theorem nlT_36:K.nlT 36=false:=rfl
@[go_sem] theorem wrB_36:K.wrB 36=true:=rfl
@[go_sem] theorem nlT_37:K.nlT 37=false:=rfl
@[go_sem] theorem wrB_37:K.wrB 37=false:=rfl
@[go_sem] theorem nlT_38:K.nlT 38=false:=rfl
@[go_sem] theorem wrB_38:K.wrB 38=false:=rfl
@[go_sem] theorem nlT_41:K.nlT 41=false:=rfl
@[go_sem] theorem wrB_41:K.wrB 41=false:=rfl
@[go_sem] theorem nlT_42:K.nlT 42=false:=rfl
@[go_sem] theorem wrB_42:K.wrB 42=false:=rfl
@[go_sem] theorem nlT_54:K.nlT 54=true:=rfl
@[go_sem] theorem wrB_54:K.wrB 54=false:=rfl
@[go_sem] theorem nlT_65:K.nlT 65=false:=rfl
@[go_sem] theorem wrB_65:K.wrB 65=false:=rfl
@[go_sem] theorem nlT_77:K.nlT 77=false:=rfl
@[go_sem] theorem wrB_77:K.wrB 77=false:=rfl
@[go_sem] theorem nlT_78:K.nlT 78=false:=rfl
@[go_sem] theorem wrB_78:K.wrB 78=false:=rfl
@[go_sem] theorem nlT_81:K.nlT 81=true:=rfl
@[go_sem] theorem wrB_81:K.wrB 81=false:=rfl
@[go_sem] theorem nlT_86:K.nlT 86=false:=rfl
@[go_sem] theorem wrB_86:K.wrB 86=false:=rfl
@[go_sem] theorem nlT_91:K.nlT 91=true:=rfl
@[go_sem] theorem wrB_91:K.wrB 91=false:=rfl
@[go_sem] theorem nlT_96:K.nlT 96=false:=rfl
@[go_sem] theorem wrB_96:K.wrB 96=false:=rfl
@[go_sem] theorem nlT_126:K.nlT 126=false:=rfl
@[go_sem] theorem wrB_126:K.wrB 126=false:=rfl
@[go_sem] theorem nlT_147:K.nlT 147=false:=rfl
@[go_sem] theorem wrB_147:K.wrB 147=false:=rfl
@[go_sem] theorem nlT_152:K.nlT 152=false:=rfl
@[go_sem] theorem wrB_152:K.wrB 152=false:=rfl
@[go_sem] theorem nlT_154:K.nlT 154=false:=rfl
@[go_sem] theorem wrB_154:K.wrB 154=false:=rfl
@[go_sem] theorem nlT_156:K.nlT 156=false:=rfl
@[go_sem] theorem wrB_156:K.wrB 156=false:=rfl
@[go_sem] theorem nlT_181:K.nlT 181=false:=rfl
@[go_sem] theorem wrB_181:K.wrB 181=false:=rfl
@[go_sem] theorem nlT_262:K.nlT 262=false:=rfl
@[go_sem] theorem wrB_262:K.wrB 262=false:=rfl
@[go_sem] theorem nlT_267:K.nlT 267=false:=rfl
@[go_sem] theorem wrB_267:K.wrB 267=false:=rfl
@[go_sem] theorem nlT_285:K.nlT 285=false:=rfl
@[go_sem] theorem wrB_285:K.wrB 285=false:=rfl
@[go_sem] theorem nlT_308:K.nlT 308=false:=rfl
@[go_sem] theorem wrB_308:K.wrB 308=false:=rfl
abbrev CallT (n:Nat) (f:Func):Prop:=∀ (args:List AV) (h:Heap),R K (.call n args h)=R K (.run n h.length [.code (f.body.getD .skip)] (entry 0 args) h)
theorem ret_of {f m k:Nat} {fr:Fr} {h:Heap} {fn:Func} {rs:List ResultVar} (h1:Tryz.prog.funcs[f]? = some fn) (h2:fn.results.toList=rs) (h3:K.ret f=m):retOf K f k fr h=leaving m k h (resL Tryz.prog fr h rs):=by
 unfold retOf
 rw [K_P,h1,←h2,←h3]
@[go_sem] theorem ar_126:ar Tryz.prog 126=none:=rfl
@[go_sem] theorem ar_147:ar Tryz.prog 147=none:=rfl
@[go_sem] theorem ar_152:ar Tryz.prog 152=none:=rfl
@[go_sem] theorem ar_154:ar Tryz.prog 154=none:=rfl
@[go_sem] theorem ar_156:ar Tryz.prog 156=none:=rfl
@[go_sem] theorem ar_181:ar Tryz.prog 181=none:=rfl
@[go_sem] theorem ar_22:ar Tryz.prog 22=none:=rfl
@[go_sem] theorem ar_244:ar Tryz.prog 244=none:=rfl
@[go_sem] theorem ar_262:ar Tryz.prog 262=none:=rfl
@[go_sem] theorem ar_267:ar Tryz.prog 267=none:=rfl
@[go_sem] theorem ar_28:ar Tryz.prog 28=none:=rfl
@[go_sem] theorem ar_285:ar Tryz.prog 285=none:=rfl
@[go_sem] theorem ar_29:ar Tryz.prog 29=none:=rfl
@[go_sem] theorem ar_30:ar Tryz.prog 30=none:=rfl
@[go_sem] theorem ar_308:ar Tryz.prog 308=none:=rfl
@[go_sem] theorem ar_36:ar Tryz.prog 36=none:=rfl
@[go_sem] theorem ar_37:ar Tryz.prog 37=none:=rfl
@[go_sem] theorem ar_38:ar Tryz.prog 38=none:=rfl
@[go_sem] theorem ar_41:ar Tryz.prog 41=none:=rfl
@[go_sem] theorem ar_42:ar Tryz.prog 42=none:=rfl
@[go_sem] theorem ar_423:ar Tryz.prog 423=none:=rfl
@[go_sem] theorem ar_434:ar Tryz.prog 434=some (6,3,1):=rfl
@[go_sem] theorem ar_54:ar Tryz.prog 54=none:=rfl
@[go_sem] theorem ar_65:ar Tryz.prog 65=none:=rfl
@[go_sem] theorem ar_77:ar Tryz.prog 77=none:=rfl
@[go_sem] theorem ar_78:ar Tryz.prog 78=none:=rfl
@[go_sem] theorem ar_81:ar Tryz.prog 81=none:=rfl
@[go_sem] theorem ar_86:ar Tryz.prog 86=none:=rfl
@[go_sem] theorem ar_9:ar Tryz.prog 9=none:=rfl
@[go_sem] theorem ar_91:ar Tryz.prog 91=none:=rfl
@[go_sem] theorem ar_92:ar Tryz.prog 92=none:=rfl
@[go_sem] theorem ar_93:ar Tryz.prog 93=none:=rfl
@[go_sem] theorem ar_96:ar Tryz.prog 96=none:=rfl
@[go_sem] theorem ck_102:ck Tryz.prog 102=.no:=by kernel_rfl
@[go_sem] theorem ck_122:ck Tryz.prog 122=.ptr:=by kernel_rfl
@[go_sem] theorem ck_143:ck Tryz.prog 143=.map:=by kernel_rfl
@[go_sem] theorem ck_146:ck Tryz.prog 146=.ptr:=by kernel_rfl
@[go_sem] theorem ck_148:ck Tryz.prog 148=.ptr:=by kernel_rfl
@[go_sem] theorem ck_179:ck Tryz.prog 179=.ptr:=by kernel_rfl
@[go_sem] theorem ck_20:ck Tryz.prog 20=.iface:=by kernel_rfl
@[go_sem] theorem ck_21:ck Tryz.prog 21=.no:=by kernel_rfl
@[go_sem] theorem ck_22:ck Tryz.prog 22=.no:=by kernel_rfl
@[go_sem] theorem ck_27:ck Tryz.prog 27=.flat [.int,.int,.str]:=by kernel_rfl
@[go_sem] theorem ck_3:ck Tryz.prog 3=.no:=by kernel_rfl
@[go_sem] theorem ck_4:ck Tryz.prog 4=.bool:=by kernel_rfl
@[go_sem] theorem ck_490:ck Tryz.prog 490=.no:=by kernel_rfl
@[go_sem] theorem ck_5:ck Tryz.prog 5=.no:=by kernel_rfl
@[go_sem] theorem ck_52:ck Tryz.prog 52=.no:=by kernel_rfl
@[go_sem] theorem ck_60:ck Tryz.prog 60=.no:=by kernel_rfl
@[go_sem] theorem ck_70:ck Tryz.prog 70=.iface:=by kernel_rfl
@[go_sem] theorem ck_9:ck Tryz.prog 9=.no:=by kernel_rfl
@[go_sem] theorem cv_102_5:cvOf Tryz.prog 102 5=.int .u8:=rfl
@[go_sem] theorem cv_21_9:cvOf Tryz.prog 21 9=.str:=rfl
@[go_sem] theorem cv_3_102:cvOf Tryz.prog 3 102=.int .u64:=rfl
@[go_sem] theorem cv_3_21:cvOf Tryz.prog 3 21=.int .i32:=rfl
@[go_sem] theorem cv_3_5:cvOf Tryz.prog 3 5=.int .u8:=rfl
@[go_sem] theorem cv_3_519:cvOf Tryz.prog 3 519=.int .u64:=rfl
@[go_sem] theorem cv_3_60:cvOf Tryz.prog 3 60=.int .u64:=rfl
@[go_sem] theorem cv_5_3:cvOf Tryz.prog 5 3=.int .i64:=rfl
@[go_sem] theorem cv_60_3:cvOf Tryz.prog 60 3=.int .i64:=rfl
@[go_sem] theorem cv_60_99:cvOf Tryz.prog 60 99=.int .u32:=rfl
@[go_sem] theorem cv_65_9:cvOf Tryz.prog 65 9=.ofBytes:=rfl
@[go_sem] theorem cv_9_65:cvOf Tryz.prog 9 65=.bytes:=rfl
@[go_sem] theorem cv_99_60:cvOf Tryz.prog 99 60=.int .u64:=rfl
@[go_sem] theorem el_65:elT Tryz.prog 65=some (5):=rfl
@[go_sem] theorem es_105:es Tryz.prog 105=none:=rfl
@[go_sem] theorem es_126:es Tryz.prog 126=some (1,8):=rfl
@[go_sem] theorem es_147:es Tryz.prog 147=some (1,24):=rfl
@[go_sem] theorem es_152:es Tryz.prog 152=some (1,24):=rfl
@[go_sem] theorem es_154:es Tryz.prog 154=some (2,48):=rfl
@[go_sem] theorem es_156:es Tryz.prog 156=some (1,8):=rfl
@[go_sem] theorem es_181:es Tryz.prog 181=some (2,40):=rfl
@[go_sem] theorem es_22:es Tryz.prog 22=some (1,8):=rfl
@[go_sem] theorem es_244:es Tryz.prog 244=some (1,8):=rfl
@[go_sem] theorem es_262:es Tryz.prog 262=some (1,8):=rfl
@[go_sem] theorem es_267:es Tryz.prog 267=some (1,8):=rfl
@[go_sem] theorem es_28:es Tryz.prog 28=some (13,192):=rfl
@[go_sem] theorem es_285:es Tryz.prog 285=some (1,24):=rfl
@[go_sem] theorem es_29:es Tryz.prog 29=some (10,192):=rfl
@[go_sem] theorem es_3:es Tryz.prog 3=none:=rfl
@[go_sem] theorem es_30:es Tryz.prog 30=some (15,200):=rfl
@[go_sem] theorem es_308:es Tryz.prog 308=some (1,1):=rfl
@[go_sem] theorem es_36:es Tryz.prog 36=some (14,208):=rfl
@[go_sem] theorem es_37:es Tryz.prog 37=some (3,56):=rfl
@[go_sem] theorem es_38:es Tryz.prog 38=some (17,256):=rfl
@[go_sem] theorem es_41:es Tryz.prog 41=some (1,16):=rfl
@[go_sem] theorem es_42:es Tryz.prog 42=some (1,24):=rfl
@[go_sem] theorem es_423:es Tryz.prog 423=some (7,104):=rfl
@[go_sem] theorem es_434:es Tryz.prog 434=none:=rfl
@[go_sem] theorem es_54:es Tryz.prog 54=some (5,112):=rfl
@[go_sem] theorem es_65:es Tryz.prog 65=some (1,1):=rfl
@[go_sem] theorem es_77:es Tryz.prog 77=some (3,32):=rfl
@[go_sem] theorem es_78:es Tryz.prog 78=some (1,24):=rfl
@[go_sem] theorem es_81:es Tryz.prog 81=some (2,40):=rfl
@[go_sem] theorem es_86:es Tryz.prog 86=some (3,40):=rfl
@[go_sem] theorem es_9:es Tryz.prog 9=none:=rfl
@[go_sem] theorem es_91:es Tryz.prog 91=some (6,64):=rfl
@[go_sem] theorem es_92:es Tryz.prog 92=some (3,56):=rfl
@[go_sem] theorem es_93:es Tryz.prog 93=some (3,48):=rfl
@[go_sem] theorem es_96:es Tryz.prog 96=some (2,24):=rfl
@[go_sem] theorem ez_22:elemZero Tryz.prog 22=some (.int .i64 0):=rfl
@[go_sem] theorem ez_244:elemZero Tryz.prog 244=some (.nilm):=rfl
@[go_sem] theorem ez_28:elemZero Tryz.prog 28=some (.agg [.int .i64 0,.int .i64 0,.int .i64 0,.int .i64 0,.int .i64 0,.str [],.str [],.str [],.bool false,.nils,.nils,.nils,.nils]):=rfl
@[go_sem] theorem ez_308:elemZero Tryz.prog 308=some (.bool false):=rfl
@[go_sem] theorem ez_423:elemZero Tryz.prog 423=some (.agg [.int .i64 0,.str [],.nils,.nils,.int .i64 0,.int .i64 0,.str []]):=rfl
@[go_sem] theorem ez_65:elemZero Tryz.prog 65=some (.int .u8 0):=rfl
@[go_sem] theorem ez_77:elemZero Tryz.prog 77=some (.agg [.int .i64 0,.int .i64 0,.str []]):=rfl
@[go_sem] theorem fo_109_0:fo Tryz.prog 109 0=some (0,9):=rfl
@[go_sem] theorem fo_109_1:fo Tryz.prog 109 1=some (1,3):=rfl
@[go_sem] theorem fo_109_2:fo Tryz.prog 109 2=some (2,3):=rfl
@[go_sem] theorem fo_109_3:fo Tryz.prog 109 3=some (3,3):=rfl
@[go_sem] theorem fo_120_0:fo Tryz.prog 120 0=some (0,56):=rfl
@[go_sem] theorem fo_120_1:fo Tryz.prog 120 1=some (1,22):=rfl
@[go_sem] theorem fo_128_0:fo Tryz.prog 128 0=some (0,56):=rfl
@[go_sem] theorem fo_128_1:fo Tryz.prog 128 1=some (1,22):=rfl
@[go_sem] theorem fo_128_2:fo Tryz.prog 128 2=some (2,126):=rfl
@[go_sem] theorem fo_136_0:fo Tryz.prog 136 0=some (0,4):=rfl
@[go_sem] theorem fo_145_0:fo Tryz.prog 145 0=some (0,77):=rfl
@[go_sem] theorem fo_145_1:fo Tryz.prog 145 1=some (1,56):=rfl
@[go_sem] theorem fo_145_2:fo Tryz.prog 145 2=some (2,142):=rfl
@[go_sem] theorem fo_145_3:fo Tryz.prog 145 3=some (3,143):=rfl
@[go_sem] theorem fo_145_4:fo Tryz.prog 145 4=some (4,3):=rfl
@[go_sem] theorem fo_151_0:fo Tryz.prog 151 0=some (0,146):=rfl
@[go_sem] theorem fo_151_1:fo Tryz.prog 151 1=some (1,41):=rfl
@[go_sem] theorem fo_151_2:fo Tryz.prog 151 2=some (2,147):=rfl
@[go_sem] theorem fo_151_3:fo Tryz.prog 151 3=some (3,78):=rfl
@[go_sem] theorem fo_151_4:fo Tryz.prog 151 4=some (4,148):=rfl
@[go_sem] theorem fo_151_5:fo Tryz.prog 151 5=some (5,149):=rfl
@[go_sem] theorem fo_151_6:fo Tryz.prog 151 6=some (6,3):=rfl
@[go_sem] theorem fo_160_0:fo Tryz.prog 160 0=some (0,77):=rfl
@[go_sem] theorem fo_160_1:fo Tryz.prog 160 1=some (1,77):=rfl
@[go_sem] theorem fo_174_0:fo Tryz.prog 174 0=some (0,9):=rfl
@[go_sem] theorem fo_174_1:fo Tryz.prog 174 1=some (1,41):=rfl
@[go_sem] theorem fo_174_2:fo Tryz.prog 174 2=some (2,9):=rfl
@[go_sem] theorem fo_176_0:fo Tryz.prog 176 0=some (0,3):=rfl
@[go_sem] theorem fo_176_1:fo Tryz.prog 176 1=some (1,3):=rfl
@[go_sem] theorem fo_176_2:fo Tryz.prog 176 2=some (2,4):=rfl
@[go_sem] theorem fo_183_0:fo Tryz.prog 183 0=some (0,179):=rfl
@[go_sem] theorem fo_183_1:fo Tryz.prog 183 1=some (1,181):=rfl
@[go_sem] theorem fo_187_0:fo Tryz.prog 187 0=some (0,4):=rfl
@[go_sem] theorem fo_187_1:fo Tryz.prog 187 1=some (1,4):=rfl
@[go_sem] theorem fo_187_2:fo Tryz.prog 187 2=some (2,4):=rfl
@[go_sem] theorem fo_199_0:fo Tryz.prog 199 0=some (0,9):=rfl
@[go_sem] theorem fo_199_1:fo Tryz.prog 199 1=some (1,9):=rfl
@[go_sem] theorem fo_199_2:fo Tryz.prog 199 2=some (2,3):=rfl
@[go_sem] theorem fo_201_0:fo Tryz.prog 201 0=some (0,32):=rfl
@[go_sem] theorem fo_201_1:fo Tryz.prog 201 1=some (13,4):=rfl
@[go_sem] theorem fo_201_2:fo Tryz.prog 201 2=some (14,4):=rfl
@[go_sem] theorem fo_208_0:fo Tryz.prog 208 0=some (0,9):=rfl
@[go_sem] theorem fo_208_1:fo Tryz.prog 208 1=some (1,86):=rfl
@[go_sem] theorem fo_215_0:fo Tryz.prog 215 0=some (0,3):=rfl
@[go_sem] theorem fo_215_1:fo Tryz.prog 215 1=some (1,3):=rfl
@[go_sem] theorem fo_215_2:fo Tryz.prog 215 2=some (2,4):=rfl
@[go_sem] theorem fo_221_0:fo Tryz.prog 221 0=some (0,41):=rfl
@[go_sem] theorem fo_221_1:fo Tryz.prog 221 1=some (1,86):=rfl
@[go_sem] theorem fo_221_2:fo Tryz.prog 221 2=some (2,41):=rfl
@[go_sem] theorem fo_221_3:fo Tryz.prog 221 3=some (3,22):=rfl
@[go_sem] theorem fo_221_4:fo Tryz.prog 221 4=some (4,4):=rfl
@[go_sem] theorem fo_221_5:fo Tryz.prog 221 5=some (5,4):=rfl
@[go_sem] theorem fo_221_6:fo Tryz.prog 221 6=some (6,4):=rfl
@[go_sem] theorem fo_221_7:fo Tryz.prog 221 7=some (7,4):=rfl
@[go_sem] theorem fo_232_0:fo Tryz.prog 232 0=some (0,9):=rfl
@[go_sem] theorem fo_232_1:fo Tryz.prog 232 1=some (1,3):=rfl
@[go_sem] theorem fo_249_0:fo Tryz.prog 249 0=some (0,9):=rfl
@[go_sem] theorem fo_249_1:fo Tryz.prog 249 1=some (1,9):=rfl
@[go_sem] theorem fo_249_2:fo Tryz.prog 249 2=some (2,29):=rfl
@[go_sem] theorem fo_25_0:fo Tryz.prog 25 0=some (0,22):=rfl
@[go_sem] theorem fo_25_1:fo Tryz.prog 25 1=some (1,3):=rfl
@[go_sem] theorem fo_253_0:fo Tryz.prog 253 0=some (0,4):=rfl
@[go_sem] theorem fo_253_1:fo Tryz.prog 253 1=some (1,249):=rfl
@[go_sem] theorem fo_253_2:fo Tryz.prog 253 2=some (4,32):=rfl
@[go_sem] theorem fo_261_0:fo Tryz.prog 261 0=some (0,152):=rfl
@[go_sem] theorem fo_261_1:fo Tryz.prog 261 1=some (1,28):=rfl
@[go_sem] theorem fo_261_2:fo Tryz.prog 261 2=some (2,78):=rfl
@[go_sem] theorem fo_27_0:fo Tryz.prog 27 0=some (0,3):=rfl
@[go_sem] theorem fo_27_1:fo Tryz.prog 27 1=some (1,3):=rfl
@[go_sem] theorem fo_27_2:fo Tryz.prog 27 2=some (2,9):=rfl
@[go_sem] theorem fo_272_0:fo Tryz.prog 272 0=some (0,9):=rfl
@[go_sem] theorem fo_272_1:fo Tryz.prog 272 1=some (1,41):=rfl
@[go_sem] theorem fo_272_2:fo Tryz.prog 272 2=some (2,4):=rfl
@[go_sem] theorem fo_281_0:fo Tryz.prog 281 0=some (0,28):=rfl
@[go_sem] theorem fo_281_1:fo Tryz.prog 281 1=some (1,41):=rfl
@[go_sem] theorem fo_32_0:fo Tryz.prog 32 0=some (0,3):=rfl
@[go_sem] theorem fo_32_1:fo Tryz.prog 32 1=some (1,3):=rfl
@[go_sem] theorem fo_32_10:fo Tryz.prog 32 10=some (12,30):=rfl
@[go_sem] theorem fo_32_2:fo Tryz.prog 32 2=some (2,3):=rfl
@[go_sem] theorem fo_32_3:fo Tryz.prog 32 3=some (3,27):=rfl
@[go_sem] theorem fo_32_4:fo Tryz.prog 32 4=some (6,9):=rfl
@[go_sem] theorem fo_32_5:fo Tryz.prog 32 5=some (7,9):=rfl
@[go_sem] theorem fo_32_6:fo Tryz.prog 32 6=some (8,4):=rfl
@[go_sem] theorem fo_32_7:fo Tryz.prog 32 7=some (9,28):=rfl
@[go_sem] theorem fo_32_8:fo Tryz.prog 32 8=some (10,29):=rfl
@[go_sem] theorem fo_32_9:fo Tryz.prog 32 9=some (11,28):=rfl
@[go_sem] theorem fo_336_0:fo Tryz.prog 336 0=some (0,28):=rfl
@[go_sem] theorem fo_336_1:fo Tryz.prog 336 1=some (1,77):=rfl
@[go_sem] theorem fo_336_2:fo Tryz.prog 336 2=some (2,152):=rfl
@[go_sem] theorem fo_35_0:fo Tryz.prog 35 0=some (0,9):=rfl
@[go_sem] theorem fo_35_1:fo Tryz.prog 35 1=some (1,32):=rfl
@[go_sem] theorem fo_381_0:fo Tryz.prog 381 0=some (0,67):=rfl
@[go_sem] theorem fo_381_1:fo Tryz.prog 381 1=some (2,3):=rfl
@[go_sem] theorem fo_381_2:fo Tryz.prog 381 2=some (3,4):=rfl
@[go_sem] theorem fo_385_0:fo Tryz.prog 385 0=some (0,78):=rfl
@[go_sem] theorem fo_385_1:fo Tryz.prog 385 1=some (1,32):=rfl
@[go_sem] theorem fo_385_2:fo Tryz.prog 385 2=some (14,143):=rfl
@[go_sem] theorem fo_40_0:fo Tryz.prog 40 0=some (0,4):=rfl
@[go_sem] theorem fo_40_1:fo Tryz.prog 40 1=some (1,36):=rfl
@[go_sem] theorem fo_40_2:fo Tryz.prog 40 2=some (2,37):=rfl
@[go_sem] theorem fo_40_3:fo Tryz.prog 40 3=some (3,38):=rfl
@[go_sem] theorem fo_40_4:fo Tryz.prog 40 4=some (4,28):=rfl
@[go_sem] theorem fo_40_5:fo Tryz.prog 40 5=some (5,28):=rfl
@[go_sem] theorem fo_40_6:fo Tryz.prog 40 6=some (6,28):=rfl
@[go_sem] theorem fo_40_7:fo Tryz.prog 40 7=some (7,30):=rfl
@[go_sem] theorem fo_40_8:fo Tryz.prog 40 8=some (8,3):=rfl
@[go_sem] theorem fo_40_9:fo Tryz.prog 40 9=some (9,3):=rfl
@[go_sem] theorem fo_425_0:fo Tryz.prog 425 0=some (0,3):=rfl
@[go_sem] theorem fo_425_1:fo Tryz.prog 425 1=some (1,9):=rfl
@[go_sem] theorem fo_425_2:fo Tryz.prog 425 2=some (2,77):=rfl
@[go_sem] theorem fo_425_3:fo Tryz.prog 425 3=some (3,77):=rfl
@[go_sem] theorem fo_425_4:fo Tryz.prog 425 4=some (4,27):=rfl
@[go_sem] theorem fo_44_0:fo Tryz.prog 44 0=some (0,3):=rfl
@[go_sem] theorem fo_44_1:fo Tryz.prog 44 1=some (1,22):=rfl
@[go_sem] theorem fo_44_2:fo Tryz.prog 44 2=some (2,29):=rfl
@[go_sem] theorem fo_44_3:fo Tryz.prog 44 3=some (3,9):=rfl
@[go_sem] theorem fo_44_4:fo Tryz.prog 44 4=some (4,9):=rfl
@[go_sem] theorem fo_44_5:fo Tryz.prog 44 5=some (5,41):=rfl
@[go_sem] theorem fo_44_6:fo Tryz.prog 44 6=some (6,42):=rfl
@[go_sem] theorem fo_44_7:fo Tryz.prog 44 7=some (7,28):=rfl
@[go_sem] theorem fo_44_8:fo Tryz.prog 44 8=some (8,28):=rfl
@[go_sem] theorem fo_462_0:fo Tryz.prog 462 0=some (0,3):=rfl
@[go_sem] theorem fo_462_1:fo Tryz.prog 462 1=some (1,3):=rfl
@[go_sem] theorem fo_56_0:fo Tryz.prog 56 0=some (0,54):=rfl
@[go_sem] theorem fo_67_1:fo Tryz.prog 67 1=some (1,65):=rfl
@[go_sem] theorem fo_80_0:fo Tryz.prog 80 0=some (0,9):=rfl
@[go_sem] theorem fo_80_1:fo Tryz.prog 80 1=some (1,78):=rfl
@[go_sem] theorem fo_83_0:fo Tryz.prog 83 0=some (0,81):=rfl
@[go_sem] theorem fo_90_0:fo Tryz.prog 90 0=some (0,9):=rfl
@[go_sem] theorem fo_90_1:fo Tryz.prog 90 1=some (1,3):=rfl
@[go_sem] theorem fo_90_2:fo Tryz.prog 90 2=some (2,4):=rfl
@[go_sem] theorem fo_90_3:fo Tryz.prog 90 3=some (3,27):=rfl
@[go_sem] theorem fo_95_0:fo Tryz.prog 95 0=some (0,9):=rfl
@[go_sem] theorem fo_95_1:fo Tryz.prog 95 1=some (1,91):=rfl
@[go_sem] theorem fo_95_2:fo Tryz.prog 95 2=some (2,41):=rfl
@[go_sem] theorem fo_95_3:fo Tryz.prog 95 3=some (3,92):=rfl
@[go_sem] theorem fo_95_4:fo Tryz.prog 95 4=some (4,93):=rfl
@[go_sem] theorem if_136 (x:AV):ifaceV Tryz.prog 136 x=some (.iface 136 x):=rfl
@[go_sem] theorem if_9 (x:AV):ifaceV Tryz.prog 9 x=some (.iface 9 x):=rfl
@[go_sem] theorem isl_102:isSl Tryz.prog 102=false:=rfl
@[go_sem] theorem isl_122:isSl Tryz.prog 122=false:=rfl
@[go_sem] theorem isl_143:isSl Tryz.prog 143=false:=rfl
@[go_sem] theorem isl_146:isSl Tryz.prog 146=false:=rfl
@[go_sem] theorem isl_148:isSl Tryz.prog 148=false:=rfl
@[go_sem] theorem isl_179:isSl Tryz.prog 179=false:=rfl
@[go_sem] theorem isl_20:isSl Tryz.prog 20=false:=rfl
@[go_sem] theorem isl_21:isSl Tryz.prog 21=false:=rfl
@[go_sem] theorem isl_22:isSl Tryz.prog 22=true:=rfl
@[go_sem] theorem isl_27:isSl Tryz.prog 27=false:=rfl
@[go_sem] theorem isl_3:isSl Tryz.prog 3=false:=rfl
@[go_sem] theorem isl_4:isSl Tryz.prog 4=false:=rfl
@[go_sem] theorem isl_490:isSl Tryz.prog 490=false:=rfl
@[go_sem] theorem isl_5:isSl Tryz.prog 5=false:=rfl
@[go_sem] theorem isl_52:isSl Tryz.prog 52=false:=rfl
@[go_sem] theorem isl_60:isSl Tryz.prog 60=false:=rfl
@[go_sem] theorem isl_70:isSl Tryz.prog 70=false:=rfl
@[go_sem] theorem isl_9:isSl Tryz.prog 9=false:=rfl
@[go_sem] theorem kk_143:kkOf Tryz.prog 143=some (.str,78):=rfl
@[go_sem] theorem kk_155:kkOf Tryz.prog 155=some (.str,4):=rfl
@[go_sem] theorem kk_337:kkOf Tryz.prog 337=some (.str,148):=rfl
@[go_sem] theorem kk_454:kkOf Tryz.prog 454=some (.str,3):=rfl
@[go_sem] theorem plc_109:plc Tryz.prog 109=some (.fields [(0,1),(1,1),(2,1),(3,1)]):=rfl
@[go_sem] theorem plc_120:plc Tryz.prog 120=some (.fields [(0,1),(1,1)]):=rfl
@[go_sem] theorem plc_128:plc Tryz.prog 128=some (.fields [(0,1),(1,1),(2,1)]):=rfl
@[go_sem] theorem plc_136:plc Tryz.prog 136=some (.fields [(0,1)]):=rfl
@[go_sem] theorem plc_145:plc Tryz.prog 145=some (.fields [(0,1),(1,1),(2,1),(3,1),(4,1)]):=rfl
@[go_sem] theorem plc_151:plc Tryz.prog 151=some (.fields [(0,1),(1,1),(2,1),(3,1),(4,1),(5,1),(6,1)]):=rfl
@[go_sem] theorem plc_160:plc Tryz.prog 160=some (.fields [(0,1),(1,1)]):=rfl
@[go_sem] theorem plc_176:plc Tryz.prog 176=some (.fields [(0,1),(1,1),(2,1)]):=rfl
@[go_sem] theorem plc_183:plc Tryz.prog 183=some (.fields [(0,1),(1,1)]):=rfl
@[go_sem] theorem plc_187:plc Tryz.prog 187=some (.fields [(0,1),(1,1),(2,1)]):=rfl
@[go_sem] theorem plc_199:plc Tryz.prog 199=some (.fields [(0,1),(1,1),(2,1)]):=rfl
@[go_sem] theorem plc_201:plc Tryz.prog 201=some (.fields [(0,13),(13,1),(14,1)]):=rfl
@[go_sem] theorem plc_208:plc Tryz.prog 208=some (.fields [(0,1),(1,1)]):=rfl
@[go_sem] theorem plc_215:plc Tryz.prog 215=some (.fields [(0,1),(1,1),(2,1)]):=rfl
@[go_sem] theorem plc_221:plc Tryz.prog 221=some (.fields [(0,1),(1,1),(2,1),(3,1),(4,1),(5,1),(6,1),(7,1)]):=rfl
@[go_sem] theorem plc_232:plc Tryz.prog 232=some (.fields [(0,1),(1,1)]):=rfl
@[go_sem] theorem plc_25:plc Tryz.prog 25=some (.fields [(0,1),(1,1)]):=rfl
@[go_sem] theorem plc_253:plc Tryz.prog 253=some (.fields [(0,1),(1,3),(4,13)]):=rfl
@[go_sem] theorem plc_261:plc Tryz.prog 261=some (.fields [(0,1),(1,1),(2,1)]):=rfl
@[go_sem] theorem plc_27:plc Tryz.prog 27=some (.fields [(0,1),(1,1),(2,1)]):=rfl
@[go_sem] theorem plc_281:plc Tryz.prog 281=some (.fields [(0,1),(1,1)]):=rfl
@[go_sem] theorem plc_32:plc Tryz.prog 32=some (.fields [(0,1),(1,1),(2,1),(3,3),(6,1),(7,1),(8,1),(9,1),(10,1),(11,1),(12,1)]):=rfl
@[go_sem] theorem plc_336:plc Tryz.prog 336=some (.fields [(0,1),(1,1),(2,1)]):=rfl
@[go_sem] theorem plc_35:plc Tryz.prog 35=some (.fields [(0,1),(1,13)]):=rfl
@[go_sem] theorem plc_381:plc Tryz.prog 381=some (.fields [(0,2),(2,1),(3,1)]):=rfl
@[go_sem] theorem plc_385:plc Tryz.prog 385=some (.fields [(0,1),(1,13),(14,1)]):=rfl
@[go_sem] theorem plc_40:plc Tryz.prog 40=some (.fields [(0,1),(1,1),(2,1),(3,1),(4,1),(5,1),(6,1),(7,1),(8,1),(9,1)]):=rfl
@[go_sem] theorem plc_425:plc Tryz.prog 425=some (.fields [(0,1),(1,1),(2,1),(3,1),(4,3)]):=rfl
@[go_sem] theorem plc_434:plc Tryz.prog 434=some (.elems 1):=rfl
@[go_sem] theorem plc_44:plc Tryz.prog 44=some (.fields [(0,1),(1,1),(2,1),(3,1),(4,1),(5,1),(6,1),(7,1),(8,1)]):=rfl
@[go_sem] theorem plc_462:plc Tryz.prog 462=some (.fields [(0,1),(1,1)]):=rfl
@[go_sem] theorem plc_56:plc Tryz.prog 56=some (.fields [(0,1)]):=rfl
@[go_sem] theorem plc_80:plc Tryz.prog 80=some (.fields [(0,1),(1,1)]):=rfl
@[go_sem] theorem plc_83:plc Tryz.prog 83=some (.fields [(0,1)]):=rfl
@[go_sem] theorem plc_90:plc Tryz.prog 90=some (.fields [(0,1),(1,1),(2,1),(3,3)]):=rfl
@[go_sem] theorem plc_95:plc Tryz.prog 95=some (.fields [(0,1),(1,1),(2,1),(3,1),(4,1)]):=rfl
@[go_sem] theorem sh_107:sh Tryz.prog 107=some .one:=rfl
@[go_sem] theorem sh_112:sh Tryz.prog 112=some .one:=rfl
@[go_sem] theorem sh_126:sh Tryz.prog 126=some .one:=rfl
@[go_sem] theorem sh_142:sh Tryz.prog 142=some .one:=rfl
@[go_sem] theorem sh_143:sh Tryz.prog 143=some .one:=rfl
@[go_sem] theorem sh_146:sh Tryz.prog 146=some .one:=rfl
@[go_sem] theorem sh_147:sh Tryz.prog 147=some .one:=rfl
@[go_sem] theorem sh_148:sh Tryz.prog 148=some .one:=rfl
@[go_sem] theorem sh_149:sh Tryz.prog 149=some .one:=rfl
@[go_sem] theorem sh_151:sh Tryz.prog 151=some (.agg 7):=rfl
@[go_sem] theorem sh_152:sh Tryz.prog 152=some .one:=rfl
@[go_sem] theorem sh_155:sh Tryz.prog 155=some .one:=rfl
@[go_sem] theorem sh_160:sh Tryz.prog 160=some (.agg 2):=rfl
@[go_sem] theorem sh_171:sh Tryz.prog 171=some .one:=rfl
@[go_sem] theorem sh_174:sh Tryz.prog 174=some (.agg 3):=rfl
@[go_sem] theorem sh_179:sh Tryz.prog 179=some .one:=rfl
@[go_sem] theorem sh_181:sh Tryz.prog 181=some .one:=rfl
@[go_sem] theorem sh_187:sh Tryz.prog 187=some (.agg 3):=rfl
@[go_sem] theorem sh_192:sh Tryz.prog 192=some .one:=rfl
@[go_sem] theorem sh_199:sh Tryz.prog 199=some (.agg 3):=rfl
@[go_sem] theorem sh_201:sh Tryz.prog 201=some (.agg 15):=rfl
@[go_sem] theorem sh_208:sh Tryz.prog 208=some (.agg 2):=rfl
@[go_sem] theorem sh_219:sh Tryz.prog 219=some .one:=rfl
@[go_sem] theorem sh_22:sh Tryz.prog 22=some .one:=rfl
@[go_sem] theorem sh_232:sh Tryz.prog 232=some (.agg 2):=rfl
@[go_sem] theorem sh_244:sh Tryz.prog 244=some .one:=rfl
@[go_sem] theorem sh_249:sh Tryz.prog 249=some (.agg 3):=rfl
@[go_sem] theorem sh_253:sh Tryz.prog 253=some (.agg 17):=rfl
@[go_sem] theorem sh_27:sh Tryz.prog 27=some (.agg 3):=rfl
@[go_sem] theorem sh_270:sh Tryz.prog 270=some .one:=rfl
@[go_sem] theorem sh_272:sh Tryz.prog 272=some (.agg 3):=rfl
@[go_sem] theorem sh_28:sh Tryz.prog 28=some .one:=rfl
@[go_sem] theorem sh_281:sh Tryz.prog 281=some (.agg 2):=rfl
@[go_sem] theorem sh_29:sh Tryz.prog 29=some .one:=rfl
@[go_sem] theorem sh_3:sh Tryz.prog 3=some .one:=rfl
@[go_sem] theorem sh_30:sh Tryz.prog 30=some .one:=rfl
@[go_sem] theorem sh_32:sh Tryz.prog 32=some (.agg 13):=rfl
@[go_sem] theorem sh_35:sh Tryz.prog 35=some (.agg 14):=rfl
@[go_sem] theorem sh_36:sh Tryz.prog 36=some .one:=rfl
@[go_sem] theorem sh_37:sh Tryz.prog 37=some .one:=rfl
@[go_sem] theorem sh_38:sh Tryz.prog 38=some .one:=rfl
@[go_sem] theorem sh_4:sh Tryz.prog 4=some .one:=rfl
@[go_sem] theorem sh_40:sh Tryz.prog 40=some (.agg 10):=rfl
@[go_sem] theorem sh_41:sh Tryz.prog 41=some .one:=rfl
@[go_sem] theorem sh_42:sh Tryz.prog 42=some .one:=rfl
@[go_sem] theorem sh_425:sh Tryz.prog 425=some (.agg 7):=rfl
@[go_sem] theorem sh_434:sh Tryz.prog 434=some (.agg 6):=rfl
@[go_sem] theorem sh_44:sh Tryz.prog 44=some (.agg 9):=rfl
@[go_sem] theorem sh_462:sh Tryz.prog 462=some (.agg 2):=rfl
@[go_sem] theorem sh_5:sh Tryz.prog 5=some .one:=rfl
@[go_sem] theorem sh_52:sh Tryz.prog 52=some .one:=rfl
@[go_sem] theorem sh_54:sh Tryz.prog 54=some .one:=rfl
@[go_sem] theorem sh_56:sh Tryz.prog 56=some (.agg 1):=rfl
@[go_sem] theorem sh_65:sh Tryz.prog 65=some .one:=rfl
@[go_sem] theorem sh_77:sh Tryz.prog 77=some .one:=rfl
@[go_sem] theorem sh_78:sh Tryz.prog 78=some .one:=rfl
@[go_sem] theorem sh_80:sh Tryz.prog 80=some (.agg 2):=rfl
@[go_sem] theorem sh_81:sh Tryz.prog 81=some .one:=rfl
@[go_sem] theorem sh_83:sh Tryz.prog 83=some (.agg 1):=rfl
@[go_sem] theorem sh_86:sh Tryz.prog 86=some .one:=rfl
@[go_sem] theorem sh_9:sh Tryz.prog 9=some .one:=rfl
@[go_sem] theorem sh_90:sh Tryz.prog 90=some (.agg 6):=rfl
@[go_sem] theorem sh_91:sh Tryz.prog 91=some .one:=rfl
@[go_sem] theorem sh_92:sh Tryz.prog 92=some .one:=rfl
@[go_sem] theorem sh_93:sh Tryz.prog 93=some .one:=rfl
@[go_sem] theorem sh_95:sh Tryz.prog 95=some (.agg 5):=rfl
@[go_sem] theorem sz_126:szOf Tryz.prog 126=some (1):=rfl
@[go_sem] theorem sz_136:szOf Tryz.prog 136=some (1):=rfl
@[go_sem] theorem sz_143:szOf Tryz.prog 143=some (1):=rfl
@[go_sem] theorem sz_147:szOf Tryz.prog 147=some (1):=rfl
@[go_sem] theorem sz_148:szOf Tryz.prog 148=some (1):=rfl
@[go_sem] theorem sz_149:szOf Tryz.prog 149=some (1):=rfl
@[go_sem] theorem sz_151:szOf Tryz.prog 151=some (7):=rfl
@[go_sem] theorem sz_152:szOf Tryz.prog 152=some (1):=rfl
@[go_sem] theorem sz_155:szOf Tryz.prog 155=some (1):=rfl
@[go_sem] theorem sz_160:szOf Tryz.prog 160=some (2):=rfl
@[go_sem] theorem sz_174:szOf Tryz.prog 174=some (3):=rfl
@[go_sem] theorem sz_181:szOf Tryz.prog 181=some (1):=rfl
@[go_sem] theorem sz_187:szOf Tryz.prog 187=some (3):=rfl
@[go_sem] theorem sz_192:szOf Tryz.prog 192=some (1):=rfl
@[go_sem] theorem sz_199:szOf Tryz.prog 199=some (3):=rfl
@[go_sem] theorem sz_201:szOf Tryz.prog 201=some (15):=rfl
@[go_sem] theorem sz_208:szOf Tryz.prog 208=some (2):=rfl
@[go_sem] theorem sz_219:szOf Tryz.prog 219=some (1):=rfl
@[go_sem] theorem sz_22:szOf Tryz.prog 22=some (1):=rfl
@[go_sem] theorem sz_232:szOf Tryz.prog 232=some (2):=rfl
@[go_sem] theorem sz_244:szOf Tryz.prog 244=some (1):=rfl
@[go_sem] theorem sz_249:szOf Tryz.prog 249=some (3):=rfl
@[go_sem] theorem sz_253:szOf Tryz.prog 253=some (17):=rfl
@[go_sem] theorem sz_27:szOf Tryz.prog 27=some (3):=rfl
@[go_sem] theorem sz_272:szOf Tryz.prog 272=some (3):=rfl
@[go_sem] theorem sz_28:szOf Tryz.prog 28=some (1):=rfl
@[go_sem] theorem sz_281:szOf Tryz.prog 281=some (2):=rfl
@[go_sem] theorem sz_29:szOf Tryz.prog 29=some (1):=rfl
@[go_sem] theorem sz_3:szOf Tryz.prog 3=some (1):=rfl
@[go_sem] theorem sz_30:szOf Tryz.prog 30=some (1):=rfl
@[go_sem] theorem sz_32:szOf Tryz.prog 32=some (13):=rfl
@[go_sem] theorem sz_35:szOf Tryz.prog 35=some (14):=rfl
@[go_sem] theorem sz_36:szOf Tryz.prog 36=some (1):=rfl
@[go_sem] theorem sz_37:szOf Tryz.prog 37=some (1):=rfl
@[go_sem] theorem sz_38:szOf Tryz.prog 38=some (1):=rfl
@[go_sem] theorem sz_4:szOf Tryz.prog 4=some (1):=rfl
@[go_sem] theorem sz_40:szOf Tryz.prog 40=some (10):=rfl
@[go_sem] theorem sz_41:szOf Tryz.prog 41=some (1):=rfl
@[go_sem] theorem sz_42:szOf Tryz.prog 42=some (1):=rfl
@[go_sem] theorem sz_425:szOf Tryz.prog 425=some (7):=rfl
@[go_sem] theorem sz_434:szOf Tryz.prog 434=some (6):=rfl
@[go_sem] theorem sz_44:szOf Tryz.prog 44=some (9):=rfl
@[go_sem] theorem sz_462:szOf Tryz.prog 462=some (2):=rfl
@[go_sem] theorem sz_519:szOf Tryz.prog 519=some (1):=rfl
@[go_sem] theorem sz_52:szOf Tryz.prog 52=some (1):=rfl
@[go_sem] theorem sz_56:szOf Tryz.prog 56=some (1):=rfl
@[go_sem] theorem sz_65:szOf Tryz.prog 65=some (1):=rfl
@[go_sem] theorem sz_77:szOf Tryz.prog 77=some (1):=rfl
@[go_sem] theorem sz_78:szOf Tryz.prog 78=some (1):=rfl
@[go_sem] theorem sz_80:szOf Tryz.prog 80=some (2):=rfl
@[go_sem] theorem sz_83:szOf Tryz.prog 83=some (1):=rfl
@[go_sem] theorem sz_86:szOf Tryz.prog 86=some (1):=rfl
@[go_sem] theorem sz_9:szOf Tryz.prog 9=some (1):=rfl
@[go_sem] theorem sz_90:szOf Tryz.prog 90=some (6):=rfl
@[go_sem] theorem sz_95:szOf Tryz.prog 95=some (5):=rfl
@[go_sem] theorem tk_105:tk Tryz.prog 105=.other:=rfl
@[go_sem] theorem tk_126:tk Tryz.prog 126=.slice 1 8:=rfl
@[go_sem] theorem tk_147:tk Tryz.prog 147=.slice 1 24:=rfl
@[go_sem] theorem tk_152:tk Tryz.prog 152=.slice 1 24:=rfl
@[go_sem] theorem tk_154:tk Tryz.prog 154=.slice 2 48:=rfl
@[go_sem] theorem tk_156:tk Tryz.prog 156=.slice 1 8:=rfl
@[go_sem] theorem tk_181:tk Tryz.prog 181=.slice 2 40:=rfl
@[go_sem] theorem tk_22:tk Tryz.prog 22=.slice 1 8:=rfl
@[go_sem] theorem tk_262:tk Tryz.prog 262=.slice 1 8:=rfl
@[go_sem] theorem tk_267:tk Tryz.prog 267=.slice 1 8:=rfl
@[go_sem] theorem tk_28:tk Tryz.prog 28=.slice 13 192:=rfl
@[go_sem] theorem tk_285:tk Tryz.prog 285=.slice 1 24:=rfl
@[go_sem] theorem tk_29:tk Tryz.prog 29=.slice 10 192:=rfl
@[go_sem] theorem tk_3:tk Tryz.prog 3=.other:=rfl
@[go_sem] theorem tk_30:tk Tryz.prog 30=.slice 15 200:=rfl
@[go_sem] theorem tk_308:tk Tryz.prog 308=.slice 1 1:=rfl
@[go_sem] theorem tk_36:tk Tryz.prog 36=.slice 14 208:=rfl
@[go_sem] theorem tk_37:tk Tryz.prog 37=.slice 3 56:=rfl
@[go_sem] theorem tk_38:tk Tryz.prog 38=.slice 17 256:=rfl
@[go_sem] theorem tk_41:tk Tryz.prog 41=.slice 1 16:=rfl
@[go_sem] theorem tk_42:tk Tryz.prog 42=.slice 1 24:=rfl
@[go_sem] theorem tk_423:tk Tryz.prog 423=.slice 7 104:=rfl
@[go_sem] theorem tk_434:tk Tryz.prog 434=.arr 6:=rfl
@[go_sem] theorem tk_54:tk Tryz.prog 54=.slice 5 112:=rfl
@[go_sem] theorem tk_65:tk Tryz.prog 65=.slice 1 1:=rfl
@[go_sem] theorem tk_77:tk Tryz.prog 77=.slice 3 32:=rfl
@[go_sem] theorem tk_78:tk Tryz.prog 78=.slice 1 24:=rfl
@[go_sem] theorem tk_81:tk Tryz.prog 81=.slice 2 40:=rfl
@[go_sem] theorem tk_86:tk Tryz.prog 86=.slice 3 40:=rfl
@[go_sem] theorem tk_9:tk Tryz.prog 9=.str:=rfl
@[go_sem] theorem tk_91:tk Tryz.prog 91=.slice 6 64:=rfl
@[go_sem] theorem tk_92:tk Tryz.prog 92=.slice 3 56:=rfl
@[go_sem] theorem tk_93:tk Tryz.prog 93=.slice 3 48:=rfl
@[go_sem] theorem tk_96:tk Tryz.prog 96=.slice 2 24:=rfl
@[go_sem] theorem zv_109:zv Tryz.prog 109=some (.agg [.str [],.int .i64 0,.int .i64 0,.int .i64 0]):=rfl
@[go_sem] theorem zv_120:zv Tryz.prog 120=some (.agg [.nils,.nils]):=rfl
@[go_sem] theorem zv_128:zv Tryz.prog 128=some (.agg [.nils,.nils,.nils]):=rfl
@[go_sem] theorem zv_136:zv Tryz.prog 136=some (.agg [.bool false]):=rfl
@[go_sem] theorem zv_145:zv Tryz.prog 145=some (.agg [.nils,.nils,.nilf,.nilm,.int .i64 0]):=rfl
@[go_sem] theorem zv_151:zv Tryz.prog 151=some (.agg [.nilp,.nils,.nils,.nils,.nilp,.nilp,.int .i64 0]):=rfl
@[go_sem] theorem zv_155:zv Tryz.prog 155=some (.nilm):=rfl
@[go_sem] theorem zv_160:zv Tryz.prog 160=some (.agg [.nils,.nils]):=rfl
@[go_sem] theorem zv_174:zv Tryz.prog 174=some (.agg [.str [],.nils,.str []]):=rfl
@[go_sem] theorem zv_176:zv Tryz.prog 176=some (.agg [.int .i64 0,.int .i64 0,.bool false]):=rfl
@[go_sem] theorem zv_183:zv Tryz.prog 183=some (.agg [.nilp,.nils]):=rfl
@[go_sem] theorem zv_187:zv Tryz.prog 187=some (.agg [.bool false,.bool false,.bool false]):=rfl
@[go_sem] theorem zv_192:zv Tryz.prog 192=some (.nilf):=rfl
@[go_sem] theorem zv_199:zv Tryz.prog 199=some (.agg [.str [],.str [],.int .i64 0]):=rfl
@[go_sem] theorem zv_201:zv Tryz.prog 201=some (.agg [.int .i64 0,.int .i64 0,.int .i64 0,.int .i64 0,.int .i64 0,.str [],.str [],.str [],.bool false,.nils,.nils,.nils,.nils,.bool false,.bool false]):=rfl
@[go_sem] theorem zv_208:zv Tryz.prog 208=some (.agg [.str [],.nils]):=rfl
@[go_sem] theorem zv_215:zv Tryz.prog 215=some (.agg [.int .i64 0,.int .i64 0,.bool false]):=rfl
@[go_sem] theorem zv_219:zv Tryz.prog 219=some (.nilp):=rfl
@[go_sem] theorem zv_221:zv Tryz.prog 221=some (.agg [.nils,.nils,.nils,.nils,.bool false,.bool false,.bool false,.bool false]):=rfl
@[go_sem] theorem zv_232:zv Tryz.prog 232=some (.agg [.str [],.int .i64 0]):=rfl
@[go_sem] theorem zv_244:zv Tryz.prog 244=some (.nils):=rfl
@[go_sem] theorem zv_249:zv Tryz.prog 249=some (.agg [.str [],.str [],.nils]):=rfl
@[go_sem] theorem zv_25:zv Tryz.prog 25=some (.agg [.nils,.int .i64 0]):=rfl
@[go_sem] theorem zv_253:zv Tryz.prog 253=some (.agg [.bool false,.str [],.str [],.nils,.int .i64 0,.int .i64 0,.int .i64 0,.int .i64 0,.int .i64 0,.str [],.str [],.str [],.bool false,.nils,.nils,.nils,.nils]):=rfl
@[go_sem] theorem zv_261:zv Tryz.prog 261=some (.agg [.nils,.nils,.nils]):=rfl
@[go_sem] theorem zv_27:zv Tryz.prog 27=some (.agg [.int .i64 0,.int .i64 0,.str []]):=rfl
@[go_sem] theorem zv_272:zv Tryz.prog 272=some (.agg [.str [],.nils,.bool false]):=rfl
@[go_sem] theorem zv_28:zv Tryz.prog 28=some (.nils):=rfl
@[go_sem] theorem zv_281:zv Tryz.prog 281=some (.agg [.nils,.nils]):=rfl
@[go_sem] theorem zv_3:zv Tryz.prog 3=some (.int .i64 0):=rfl
@[go_sem] theorem zv_32:zv Tryz.prog 32=some (.agg [.int .i64 0,.int .i64 0,.int .i64 0,.int .i64 0,.int .i64 0,.str [],.str [],.str [],.bool false,.nils,.nils,.nils,.nils]):=rfl
@[go_sem] theorem zv_336:zv Tryz.prog 336=some (.agg [.nils,.nils,.nils]):=rfl
@[go_sem] theorem zv_35:zv Tryz.prog 35=some (.agg [.str [],.int .i64 0,.int .i64 0,.int .i64 0,.int .i64 0,.int .i64 0,.str [],.str [],.str [],.bool false,.nils,.nils,.nils,.nils]):=rfl
@[go_sem] theorem zv_381:zv Tryz.prog 381=some (.agg [.nilp,.nils,.int .i64 0,.bool false]):=rfl
@[go_sem] theorem zv_385:zv Tryz.prog 385=some (.agg [.nils,.int .i64 0,.int .i64 0,.int .i64 0,.int .i64 0,.int .i64 0,.str [],.str [],.str [],.bool false,.nils,.nils,.nils,.nils,.nilm]):=rfl
@[go_sem] theorem zv_4:zv Tryz.prog 4=some (.bool false):=rfl
@[go_sem] theorem zv_40:zv Tryz.prog 40=some (.agg [.bool false,.nils,.nils,.nils,.nils,.nils,.nils,.nils,.int .i64 0,.int .i64 0]):=rfl
@[go_sem] theorem zv_425:zv Tryz.prog 425=some (.agg [.int .i64 0,.str [],.nils,.nils,.int .i64 0,.int .i64 0,.str []]):=rfl
@[go_sem] theorem zv_434:zv Tryz.prog 434=some (.agg [.int .i64 0,.int .i64 0,.int .i64 0,.int .i64 0,.int .i64 0,.int .i64 0]):=rfl
@[go_sem] theorem zv_44:zv Tryz.prog 44=some (.agg [.int .i64 0,.nils,.nils,.str [],.str [],.nils,.nils,.nils,.nils]):=rfl
@[go_sem] theorem zv_462:zv Tryz.prog 462=some (.agg [.int .i64 0,.int .i64 0]):=rfl
@[go_sem] theorem zv_519:zv Tryz.prog 519=some (.int .u64 0):=rfl
@[go_sem] theorem zv_52:zv Tryz.prog 52=some (.int .i64 0):=rfl
@[go_sem] theorem zv_56:zv Tryz.prog 56=some (.agg [.nils]):=rfl
@[go_sem] theorem zv_67:zv Tryz.prog 67=some (.agg [.nilp,.nils]):=rfl
@[go_sem] theorem zv_80:zv Tryz.prog 80=some (.agg [.str [],.nils]):=rfl
@[go_sem] theorem zv_83:zv Tryz.prog 83=some (.agg [.nils]):=rfl
@[go_sem] theorem zv_9:zv Tryz.prog 9=some (.str []):=rfl
@[go_sem] theorem zv_90:zv Tryz.prog 90=some (.agg [.str [],.int .i64 0,.bool false,.int .i64 0,.int .i64 0,.str []]):=rfl
@[go_sem] theorem zv_95:zv Tryz.prog 95=some (.agg [.str [],.nils,.nils,.nils,.nils]):=rfl
@[go_sem] theorem zv_148:zv Tryz.prog 148=some (.nilp):=rfl
@[go_sem] theorem zv_78:zv Tryz.prog 78=some (.nils):=rfl
@[go_sem] theorem live_3_0:K.live 3 0=none:=rfl
@[go_sem] theorem out_3_0:K.out 3 0=none:=rfl
@[go_sem] theorem live_3_1:K.live 3 1=some ([5,6,30,31],[],[]):=rfl
@[go_sem] theorem out_3_1:K.out 3 1=some [5,6]:=rfl
@[go_sem] theorem live_3_2:K.live 3 2=none:=rfl
@[go_sem] theorem out_3_2:K.out 3 2=none:=rfl
@[go_sem] theorem live_3_3:K.live 3 3=some ([4,5,6,49,50],[],[]):=rfl
@[go_sem] theorem out_3_3:K.out 3 3=some [5,6]:=rfl
@[go_sem] theorem live_3_4:K.live 3 4=none:=rfl
@[go_sem] theorem out_3_4:K.out 3 4=none:=rfl
@[go_sem] theorem dyn_3_10:K.dyn 3 10=[]:=rfl
@[go_sem] theorem dyn_3_16:K.dyn 3 16=[]:=rfl
@[go_sem] theorem dyn_3_19:K.dyn 3 19=[(6,73),(6,4),(6,75)]:=rfl
@[go_sem] theorem dyn_3_21:K.dyn 3 21=[]:=rfl
@[go_sem] theorem dyn_5_4:K.dyn 5 4=[]:=rfl
@[go_sem] theorem dyn_5_5:K.dyn 5 5=[]:=rfl
@[go_sem] theorem live_9_0:K.live 9 0=some ([7,8],[],[]):=rfl
@[go_sem] theorem out_9_0:K.out 9 0=some [7]:=rfl
@[go_sem] theorem live_9_1:K.live 9 1=none:=rfl
@[go_sem] theorem out_9_1:K.out 9 1=none:=rfl
@[go_sem] theorem dyn_9_9:K.dyn 9 9=[]:=rfl
@[go_sem] theorem live_10_0:K.live 10 0=some ([7,8],[],[]):=rfl
@[go_sem] theorem out_10_0:K.out 10 0=some [7]:=rfl
@[go_sem] theorem live_10_1:K.live 10 1=none:=rfl
@[go_sem] theorem out_10_1:K.out 10 1=none:=rfl
@[go_sem] theorem dyn_10_9:K.dyn 10 9=[]:=rfl
@[go_sem] theorem live_24_0:K.live 24 0=none:=rfl
@[go_sem] theorem out_24_0:K.out 24 0=none:=rfl
@[go_sem] theorem live_24_1:K.live 24 1=some ([2,3,30,31,32],[],[]):=rfl
@[go_sem] theorem out_24_1:K.out 24 1=some [2,3]:=rfl
@[go_sem] theorem live_24_2:K.live 24 2=none:=rfl
@[go_sem] theorem out_24_2:K.out 24 2=none:=rfl
@[go_sem] theorem live_24_3:K.live 24 3=none:=rfl
@[go_sem] theorem out_24_3:K.out 24 3=none:=rfl
@[go_sem] theorem live_25_0:K.live 25 0=some ([2,3,26,27,28],[],[]):=rfl
@[go_sem] theorem out_25_0:K.out 25 0=some [2,3]:=rfl
@[go_sem] theorem live_25_1:K.live 25 1=none:=rfl
@[go_sem] theorem out_25_1:K.out 25 1=none:=rfl
@[go_sem] theorem dyn_25_25:K.dyn 25 25=[(7,72)]:=rfl
@[go_sem] theorem dyn_25_26:K.dyn 25 26=[(7,80)]:=rfl
@[go_sem] theorem live_38_0:K.live 38 0=none:=rfl
@[go_sem] theorem out_38_0:K.out 38 0=none:=rfl
@[go_sem] theorem dyn_38_1:K.dyn 38 1=[]:=rfl
@[go_sem] theorem live_39_0:K.live 39 0=some ([0,4,9,14,15,69,70,71],[],[]):=rfl
@[go_sem] theorem out_39_0:K.out 39 0=some [0,4,9,14,15]:=rfl
@[go_sem] theorem live_39_1:K.live 39 1=none:=rfl
@[go_sem] theorem out_39_1:K.out 39 1=none:=rfl
@[go_sem] theorem live_39_2:K.live 39 2=some ([0,4,9,15,19,20,92,93,94],[(20,none,3,false)],[]):=rfl
@[go_sem] theorem out_39_2:K.out 39 2=some [0,4,9,15,19,20]:=rfl
@[go_sem] theorem live_39_3:K.live 39 3=none:=rfl
@[go_sem] theorem out_39_3:K.out 39 3=none:=rfl
@[go_sem] theorem live_39_4:K.live 39 4=none:=rfl
@[go_sem] theorem out_39_4:K.out 39 4=none:=rfl
@[go_sem] theorem live_39_5:K.live 39 5=some ([0,4,9,15,19,20,137,138,139],[],[]):=rfl
@[go_sem] theorem out_39_5:K.out 39 5=some [4,20]:=rfl
@[go_sem] theorem live_39_6:K.live 39 6=none:=rfl
@[go_sem] theorem out_39_6:K.out 39 6=none:=rfl
@[go_sem] theorem live_40_0:K.live 40 0=some ([1,2,8,9],[],[]):=rfl
@[go_sem] theorem out_40_0:K.out 40 0=some []:=rfl
@[go_sem] theorem live_40_1:K.live 40 1=none:=rfl
@[go_sem] theorem out_40_1:K.out 40 1=none:=rfl
@[go_sem] theorem live_41_0:K.live 41 0=some ([0,1,5,46,47,48],[],[]):=rfl
@[go_sem] theorem out_41_0:K.out 41 0=some [0,1,5]:=rfl
@[go_sem] theorem live_41_1:K.live 41 1=none:=rfl
@[go_sem] theorem out_41_1:K.out 41 1=none:=rfl
@[go_sem] theorem live_41_2:K.live 41 2=some ([0,1,5,69,70,71],[],[]):=rfl
@[go_sem] theorem out_41_2:K.out 41 2=some []:=rfl
@[go_sem] theorem live_41_3:K.live 41 3=none:=rfl
@[go_sem] theorem out_41_3:K.out 41 3=none:=rfl
@[go_sem] theorem live_41_4:K.live 41 4=none:=rfl
@[go_sem] theorem out_41_4:K.out 41 4=none:=rfl
@[go_sem] theorem live_41_5:K.live 41 5=some ([0,1,5,69,70,71,92,93,94],[],[]):=rfl
@[go_sem] theorem out_41_5:K.out 41 5=some [0,1,5,69,70,71]:=rfl
@[go_sem] theorem live_41_6:K.live 41 6=none:=rfl
@[go_sem] theorem out_41_6:K.out 41 6=none:=rfl
@[go_sem] theorem dyn_41_26:K.dyn 41 26=[(8,107)]:=rfl
@[go_sem] theorem live_43_0:K.live 43 0=some ([1,19,20,21],[],[]):=rfl
@[go_sem] theorem out_43_0:K.out 43 0=some [1]:=rfl
@[go_sem] theorem live_43_1:K.live 43 1=none:=rfl
@[go_sem] theorem out_43_1:K.out 43 1=none:=rfl
@[go_sem] theorem live_43_2:K.live 43 2=some ([1,49,50,51],[],[]):=rfl
@[go_sem] theorem out_43_2:K.out 43 2=some []:=rfl
@[go_sem] theorem live_43_3:K.live 43 3=none:=rfl
@[go_sem] theorem out_43_3:K.out 43 3=none:=rfl
@[go_sem] theorem live_43_4:K.live 43 4=some ([1,8,49,50,51,56,57,58],[],[]):=rfl
@[go_sem] theorem out_43_4:K.out 43 4=some [1,49,50,51]:=rfl
@[go_sem] theorem live_43_5:K.live 43 5=none:=rfl
@[go_sem] theorem out_43_5:K.out 43 5=none:=rfl
@[go_sem] theorem live_43_6:K.live 43 6=some ([1,8,10,11,49,50,51,56,57,58,84,85,86],[],[]):=rfl
@[go_sem] theorem out_43_6:K.out 43 6=some [1,8,49,50,51,56,57,58]:=rfl
@[go_sem] theorem live_43_7:K.live 43 7=none:=rfl
@[go_sem] theorem out_43_7:K.out 43 7=none:=rfl
@[go_sem] theorem dyn_43_6:K.dyn 43 6=[]:=rfl
@[go_sem] theorem dyn_43_22:K.dyn 43 22=[]:=rfl
@[go_sem] theorem dyn_43_27:K.dyn 43 27=[]:=rfl
@[go_sem] theorem live_44_0:K.live 44 0=some ([1,3,15,16,17],[],[]):=rfl
@[go_sem] theorem out_44_0:K.out 44 0=some [1,3]:=rfl
@[go_sem] theorem live_44_1:K.live 44 1=none:=rfl
@[go_sem] theorem out_44_1:K.out 44 1=none:=rfl
@[go_sem] theorem live_44_2:K.live 44 2=some ([1,3,26,27,28],[],[]):=rfl
@[go_sem] theorem out_44_2:K.out 44 2=some [1,3]:=rfl
@[go_sem] theorem live_44_3:K.live 44 3=none:=rfl
@[go_sem] theorem out_44_3:K.out 44 3=none:=rfl
@[go_sem] theorem live_44_4:K.live 44 4=some ([1,3,26,27,28,32,33,34],[],[]):=rfl
@[go_sem] theorem out_44_4:K.out 44 4=some [1,3,26,27,28]:=rfl
@[go_sem] theorem live_44_5:K.live 44 5=none:=rfl
@[go_sem] theorem out_44_5:K.out 44 5=none:=rfl
@[go_sem] theorem live_44_6:K.live 44 6=some ([1,3,48,49,50],[],[]):=rfl
@[go_sem] theorem out_44_6:K.out 44 6=some [1,3]:=rfl
@[go_sem] theorem live_44_7:K.live 44 7=none:=rfl
@[go_sem] theorem out_44_7:K.out 44 7=none:=rfl
@[go_sem] theorem live_47_0:K.live 47 0=some ([0,3,6,90,91,92],[],[]):=rfl
@[go_sem] theorem out_47_0:K.out 47 0=some [0,3,6]:=rfl
@[go_sem] theorem live_47_1:K.live 47 1=none:=rfl
@[go_sem] theorem out_47_1:K.out 47 1=none:=rfl
@[go_sem] theorem live_47_2:K.live 47 2=some ([0,3,6,104,105,106],[],[]):=rfl
@[go_sem] theorem out_47_2:K.out 47 2=some [0,3,6]:=rfl
@[go_sem] theorem live_47_3:K.live 47 3=none:=rfl
@[go_sem] theorem out_47_3:K.out 47 3=none:=rfl
@[go_sem] theorem live_47_4:K.live 47 4=some ([0,3,15,148,149,150],[],[]):=rfl
@[go_sem] theorem out_47_4:K.out 47 4=some [0,3,15]:=rfl
@[go_sem] theorem live_47_5:K.live 47 5=none:=rfl
@[go_sem] theorem out_47_5:K.out 47 5=none:=rfl
@[go_sem] theorem dyn_47_6:K.dyn 47 6=[(14,67),(14,71),(14,75),(14,76),(14,79),(15,67),(15,71)]:=rfl
@[go_sem] theorem dyn_47_23:K.dyn 47 23=[(9,131),(9,133)]:=rfl
@[go_sem] theorem live_49_0:K.live 49 0=some ([0,4,5,48,49,50],[],[]):=rfl
@[go_sem] theorem out_49_0:K.out 49 0=some [0,4,5]:=rfl
@[go_sem] theorem live_49_1:K.live 49 1=none:=rfl
@[go_sem] theorem out_49_1:K.out 49 1=none:=rfl
@[go_sem] theorem live_49_2:K.live 49 2=some ([0,4,5,71,72,73],[],[]):=rfl
@[go_sem] theorem out_49_2:K.out 49 2=some []:=rfl
@[go_sem] theorem live_49_3:K.live 49 3=none:=rfl
@[go_sem] theorem out_49_3:K.out 49 3=none:=rfl
@[go_sem] theorem live_49_4:K.live 49 4=some ([0,4,5,71,72,73,92,93,94],[],[]):=rfl
@[go_sem] theorem out_49_4:K.out 49 4=some [0,4,5,71,72,73]:=rfl
@[go_sem] theorem live_49_5:K.live 49 5=none:=rfl
@[go_sem] theorem out_49_5:K.out 49 5=none:=rfl
@[go_sem] theorem dyn_49_26:K.dyn 49 26=[]:=rfl
@[go_sem] theorem live_50_0:K.live 50 0=some ([0,4,5,7,25,26,27],[],[]):=rfl
@[go_sem] theorem out_50_0:K.out 50 0=some [0,4,5,7]:=rfl
@[go_sem] theorem live_50_1:K.live 50 1=none:=rfl
@[go_sem] theorem out_50_1:K.out 50 1=none:=rfl
@[go_sem] theorem live_50_2:K.live 50 2=some ([0,91,92,93],[],[]):=rfl
@[go_sem] theorem out_50_2:K.out 50 2=some []:=rfl
@[go_sem] theorem live_50_3:K.live 50 3=none:=rfl
@[go_sem] theorem out_50_3:K.out 50 3=none:=rfl
@[go_sem] theorem dyn_50_7:K.dyn 50 7=[]:=rfl
@[go_sem] theorem live_70_0:K.live 70 0=some ([6,7,8],[],[]):=rfl
@[go_sem] theorem out_70_0:K.out 70 0=some []:=rfl
@[go_sem] theorem live_70_1:K.live 70 1=none:=rfl
@[go_sem] theorem out_70_1:K.out 70 1=none:=rfl
@[go_sem] theorem live_72_0:K.live 72 0=some ([1,7,8],[],[]):=rfl
@[go_sem] theorem out_72_0:K.out 72 0=some []:=rfl
@[go_sem] theorem live_72_1:K.live 72 1=none:=rfl
@[go_sem] theorem out_72_1:K.out 72 1=none:=rfl
@[go_sem] theorem dyn_77_1:K.dyn 77 1=[]:=rfl
@[go_sem] theorem live_79_0:K.live 79 0=some ([1,3,13,14,15],[],[]):=rfl
@[go_sem] theorem out_79_0:K.out 79 0=some [1,3]:=rfl
@[go_sem] theorem live_79_1:K.live 79 1=none:=rfl
@[go_sem] theorem out_79_1:K.out 79 1=none:=rfl
@[go_sem] theorem live_80_0:K.live 80 0=none:=rfl
@[go_sem] theorem out_80_0:K.out 80 0=none:=rfl
@[go_sem] theorem live_81_0:K.live 81 0=some ([0,2,4,17,18,19],[],[]):=rfl
@[go_sem] theorem out_81_0:K.out 81 0=some [0,2,4]:=rfl
@[go_sem] theorem live_81_1:K.live 81 1=none:=rfl
@[go_sem] theorem out_81_1:K.out 81 1=none:=rfl
@[go_sem] theorem live_81_2:K.live 81 2=some ([0,2,45,46,47],[],[]):=rfl
@[go_sem] theorem out_81_2:K.out 81 2=some []:=rfl
@[go_sem] theorem live_81_3:K.live 81 3=none:=rfl
@[go_sem] theorem out_81_3:K.out 81 3=none:=rfl
@[go_sem] theorem dyn_81_7:K.dyn 81 7=[]:=rfl
@[go_sem] theorem dyn_81_15:K.dyn 81 15=[]:=rfl
@[go_sem] theorem live_82_0:K.live 82 0=some ([0,2,7,13,14,15],[],[]):=rfl
@[go_sem] theorem out_82_0:K.out 82 0=some []:=rfl
@[go_sem] theorem live_82_1:K.live 82 1=none:=rfl
@[go_sem] theorem out_82_1:K.out 82 1=none:=rfl
@[go_sem] theorem live_82_2:K.live 82 2=none:=rfl
@[go_sem] theorem out_82_2:K.out 82 2=none:=rfl
@[go_sem] theorem live_83_0:K.live 83 0=some ([0,2,7,10,15,16,17],[(10,none,1,true)],[]):=rfl
@[go_sem] theorem out_83_0:K.out 83 0=some [10]:=rfl
@[go_sem] theorem live_83_1:K.live 83 1=none:=rfl
@[go_sem] theorem out_83_1:K.out 83 1=none:=rfl
@[go_sem] theorem live_86_0:K.live 86 0=some ([2,3,5,14,15,16],[],[]):=rfl
@[go_sem] theorem out_86_0:K.out 86 0=some [2,3,5]:=rfl
@[go_sem] theorem live_86_1:K.live 86 1=none:=rfl
@[go_sem] theorem out_86_1:K.out 86 1=none:=rfl
@[go_sem] theorem live_86_2:K.live 86 2=some ([3,5,29,30,31],[],[]):=rfl
@[go_sem] theorem out_86_2:K.out 86 2=some [3,5]:=rfl
@[go_sem] theorem live_86_3:K.live 86 3=none:=rfl
@[go_sem] theorem out_86_3:K.out 86 3=none:=rfl
@[go_sem] theorem live_90_0:K.live 90 0=some ([0,2,5,7,10,11,53,54,55],[],[]):=rfl
@[go_sem] theorem out_90_0:K.out 90 0=some [0,2,5,7,11]:=rfl
@[go_sem] theorem live_90_1:K.live 90 1=none:=rfl
@[go_sem] theorem out_90_1:K.out 90 1=none:=rfl
@[go_sem] theorem live_90_2:K.live 90 2=some ([0,2,5,7,11,19,73,74,75],[(19,none,1,false)],[]):=rfl
@[go_sem] theorem out_90_2:K.out 90 2=some [0,2,5,7,11,19]:=rfl
@[go_sem] theorem live_90_3:K.live 90 3=none:=rfl
@[go_sem] theorem out_90_3:K.out 90 3=none:=rfl
@[go_sem] theorem live_94_0:K.live 94 0=some ([0,1,7,8,9],[],[]):=rfl
@[go_sem] theorem out_94_0:K.out 94 0=some []:=rfl
@[go_sem] theorem live_94_1:K.live 94 1=none:=rfl
@[go_sem] theorem out_94_1:K.out 94 1=none:=rfl
@[go_sem] theorem live_94_2:K.live 94 2=none:=rfl
@[go_sem] theorem out_94_2:K.out 94 2=none:=rfl
@[go_sem] theorem live_95_0:K.live 95 0=some ([0,1,2,4,15,16,17],[],[]):=rfl
@[go_sem] theorem out_95_0:K.out 95 0=some []:=rfl
@[go_sem] theorem live_95_1:K.live 95 1=none:=rfl
@[go_sem] theorem out_95_1:K.out 95 1=none:=rfl
@[go_sem] theorem live_95_2:K.live 95 2=none:=rfl
@[go_sem] theorem out_95_2:K.out 95 2=none:=rfl
@[go_sem] theorem dyn_96_1:K.dyn 96 1=[(10,13)]:=rfl
@[go_sem] theorem live_97_0:K.live 97 0=some ([0,4,5,13,14,15],[],[]):=rfl
@[go_sem] theorem out_97_0:K.out 97 0=some [4,5]:=rfl
@[go_sem] theorem live_97_1:K.live 97 1=none:=rfl
@[go_sem] theorem out_97_1:K.out 97 1=none:=rfl
@[go_sem] theorem live_98_0:K.live 98 0=none:=rfl
@[go_sem] theorem out_98_0:K.out 98 0=none:=rfl
@[go_sem] theorem live_99_0:K.live 99 0=some ([1,41,42,43],[],[]):=rfl
@[go_sem] theorem out_99_0:K.out 99 0=some [1]:=rfl
@[go_sem] theorem live_99_1:K.live 99 1=none:=rfl
@[go_sem] theorem out_99_1:K.out 99 1=none:=rfl
@[go_sem] theorem live_99_2:K.live 99 2=none:=rfl
@[go_sem] theorem out_99_2:K.out 99 2=none:=rfl
@[go_sem] theorem live_99_3:K.live 99 3=some ([1,77,78,79],[],[]):=rfl
@[go_sem] theorem out_99_3:K.out 99 3=some [1]:=rfl
@[go_sem] theorem live_99_4:K.live 99 4=none:=rfl
@[go_sem] theorem out_99_4:K.out 99 4=none:=rfl
@[go_sem] theorem live_99_5:K.live 99 5=none:=rfl
@[go_sem] theorem out_99_5:K.out 99 5=none:=rfl
@[go_sem] theorem live_99_6:K.live 99 6=some ([1,106,107,108],[],[]):=rfl
@[go_sem] theorem out_99_6:K.out 99 6=some [1]:=rfl
@[go_sem] theorem live_99_7:K.live 99 7=none:=rfl
@[go_sem] theorem out_99_7:K.out 99 7=none:=rfl
@[go_sem] theorem live_99_8:K.live 99 8=some ([1,138,139,140],[],[]):=rfl
@[go_sem] theorem out_99_8:K.out 99 8=some []:=rfl
@[go_sem] theorem live_99_9:K.live 99 9=none:=rfl
@[go_sem] theorem out_99_9:K.out 99 9=none:=rfl
@[go_sem] theorem live_99_10:K.live 99 10=none:=rfl
@[go_sem] theorem out_99_10:K.out 99 10=none:=rfl
@[go_sem] theorem dyn_99_8:K.dyn 99 8=[]:=rfl
@[go_sem] theorem dyn_99_30:K.dyn 99 30=[]:=rfl
@[go_sem] theorem dyn_99_40:K.dyn 99 40=[]:=rfl
@[go_sem] theorem live_101_0:K.live 101 0=some ([0,2,4,43,44,45],[],[]):=rfl
@[go_sem] theorem out_101_0:K.out 101 0=some [0,2,4]:=rfl
@[go_sem] theorem live_101_1:K.live 101 1=none:=rfl
@[go_sem] theorem out_101_1:K.out 101 1=none:=rfl
@[go_sem] theorem live_101_2:K.live 101 2=some ([0,2,4,56,57,58],[],[]):=rfl
@[go_sem] theorem out_101_2:K.out 101 2=some [0,2,4]:=rfl
@[go_sem] theorem live_101_3:K.live 101 3=none:=rfl
@[go_sem] theorem out_101_3:K.out 101 3=none:=rfl
@[go_sem] theorem live_101_4:K.live 101 4=some ([0,2,4,82,83,84],[],[]):=rfl
@[go_sem] theorem out_101_4:K.out 101 4=some [0,2,4]:=rfl
@[go_sem] theorem live_101_5:K.live 101 5=none:=rfl
@[go_sem] theorem out_101_5:K.out 101 5=none:=rfl
@[go_sem] theorem live_101_6:K.live 101 6=some ([0,2,4,95,96,97],[],[]):=rfl
@[go_sem] theorem out_101_6:K.out 101 6=some [0,2,4]:=rfl
@[go_sem] theorem live_101_7:K.live 101 7=none:=rfl
@[go_sem] theorem out_101_7:K.out 101 7=none:=rfl
@[go_sem] theorem live_101_8:K.live 101 8=some ([0,2,113,114,115],[],[]):=rfl
@[go_sem] theorem out_101_8:K.out 101 8=some []:=rfl
@[go_sem] theorem live_101_9:K.live 101 9=none:=rfl
@[go_sem] theorem out_101_9:K.out 101 9=none:=rfl
@[go_sem] theorem live_102_0:K.live 102 0=some ([0,2,4,20,21,22],[],[]):=rfl
@[go_sem] theorem out_102_0:K.out 102 0=some [0,2,4]:=rfl
@[go_sem] theorem live_102_1:K.live 102 1=none:=rfl
@[go_sem] theorem out_102_1:K.out 102 1=none:=rfl
@[go_sem] theorem live_102_2:K.live 102 2=some ([0,2,4,33,34,35],[],[]):=rfl
@[go_sem] theorem out_102_2:K.out 102 2=some [0,2,4]:=rfl
@[go_sem] theorem live_102_3:K.live 102 3=none:=rfl
@[go_sem] theorem out_102_3:K.out 102 3=none:=rfl
@[go_sem] theorem live_102_4:K.live 102 4=some ([0,2,51,52,53],[],[]):=rfl
@[go_sem] theorem out_102_4:K.out 102 4=some []:=rfl
@[go_sem] theorem live_102_5:K.live 102 5=none:=rfl
@[go_sem] theorem out_102_5:K.out 102 5=none:=rfl
@[go_sem] theorem live_103_0:K.live 103 0=some ([0,3,9,10,11],[],[]):=rfl
@[go_sem] theorem out_103_0:K.out 103 0=some [0,3]:=rfl
@[go_sem] theorem live_103_1:K.live 103 1=none:=rfl
@[go_sem] theorem out_103_1:K.out 103 1=none:=rfl
@[go_sem] theorem live_103_2:K.live 103 2=some ([6,25,26,27],[(6,none,13,true)],[]):=rfl
@[go_sem] theorem out_103_2:K.out 103 2=some [6]:=rfl
@[go_sem] theorem live_103_3:K.live 103 3=none:=rfl
@[go_sem] theorem out_103_3:K.out 103 3=none:=rfl
@[go_sem] theorem live_105_0:K.live 105 0=some ([0,3,13,14,15],[],[]):=rfl
@[go_sem] theorem out_105_0:K.out 105 0=some [0,3]:=rfl
@[go_sem] theorem live_105_1:K.live 105 1=none:=rfl
@[go_sem] theorem out_105_1:K.out 105 1=none:=rfl
@[go_sem] theorem live_105_2:K.live 105 2=some ([0,27,28,29],[],[]):=rfl
@[go_sem] theorem out_105_2:K.out 105 2=some []:=rfl
@[go_sem] theorem live_105_3:K.live 105 3=none:=rfl
@[go_sem] theorem out_105_3:K.out 105 3=none:=rfl
@[go_sem] theorem live_109_0:K.live 109 0=some ([1,3,10,11,12],[],[]):=rfl
@[go_sem] theorem out_109_0:K.out 109 0=some [1,3]:=rfl
@[go_sem] theorem live_109_1:K.live 109 1=none:=rfl
@[go_sem] theorem out_109_1:K.out 109 1=none:=rfl
@[go_sem] theorem dyn_109_7:K.dyn 109 7=[]:=rfl
@[go_sem] theorem live_110_0:K.live 110 0=some ([0,2,4,8,9,23,24,25],[(8,none,2,false),(9,none,1,false)],[]):=rfl
@[go_sem] theorem out_110_0:K.out 110 0=some [0,2,4,8,9]:=rfl
@[go_sem] theorem live_110_1:K.live 110 1=none:=rfl
@[go_sem] theorem out_110_1:K.out 110 1=none:=rfl
@[go_sem] theorem live_110_2:K.live 110 2=some ([0,2,4,8,9,67,68,69],[],[]):=rfl
@[go_sem] theorem out_110_2:K.out 110 2=some [4,8,9]:=rfl
@[go_sem] theorem live_110_3:K.live 110 3=none:=rfl
@[go_sem] theorem out_110_3:K.out 110 3=none:=rfl
@[go_sem] theorem live_110_4:K.live 110 4=some ([4,8,9,87,88,89],[],[]):=rfl
@[go_sem] theorem out_110_4:K.out 110 4=some [8]:=rfl
@[go_sem] theorem live_110_5:K.live 110 5=none:=rfl
@[go_sem] theorem out_110_5:K.out 110 5=none:=rfl
@[go_sem] theorem dyn_110_13:K.dyn 110 13=[(6,60)]:=rfl
@[go_sem] theorem live_111_0:K.live 111 0=some ([0,1,7,8],[],[]):=rfl
@[go_sem] theorem out_111_0:K.out 111 0=some []:=rfl
@[go_sem] theorem live_111_1:K.live 111 1=none:=rfl
@[go_sem] theorem out_111_1:K.out 111 1=none:=rfl
@[go_sem] theorem live_113_0:K.live 113 0=some ([1,2,7,8,9],[],[]):=rfl
@[go_sem] theorem out_113_0:K.out 113 0=some []:=rfl
@[go_sem] theorem live_113_1:K.live 113 1=none:=rfl
@[go_sem] theorem out_113_1:K.out 113 1=none:=rfl
@[go_sem] theorem live_114_0:K.live 114 0=some ([0,2,5,15,16,17],[],[]):=rfl
@[go_sem] theorem out_114_0:K.out 114 0=some []:=rfl
@[go_sem] theorem live_114_1:K.live 114 1=none:=rfl
@[go_sem] theorem out_114_1:K.out 114 1=none:=rfl
@[go_sem] theorem dyn_114_7:K.dyn 114 7=[]:=rfl
@[go_sem] theorem live_115_0:K.live 115 0=some ([4,7,8,9],[],[]):=rfl
@[go_sem] theorem out_115_0:K.out 115 0=some [4]:=rfl
@[go_sem] theorem live_115_1:K.live 115 1=none:=rfl
@[go_sem] theorem out_115_1:K.out 115 1=none:=rfl
@[go_sem] theorem live_115_2:K.live 115 2=none:=rfl
@[go_sem] theorem out_115_2:K.out 115 2=none:=rfl
@[go_sem] theorem live_134_0:K.live 134 0=none:=rfl
@[go_sem] theorem out_134_0:K.out 134 0=none:=rfl
@[go_sem] theorem live_147_0:K.live 147 0=none:=rfl
@[go_sem] theorem out_147_0:K.out 147 0=none:=rfl
@[go_sem] theorem live_159_0:K.live 159 0=none:=rfl
@[go_sem] theorem out_159_0:K.out 159 0=none:=rfl
@[go_sem] theorem dyn_161_1:K.dyn 161 1=[]:=rfl
@[go_sem] theorem live_163_0:K.live 163 0=some ([0,2,14,15,16],[],[]):=rfl
@[go_sem] theorem out_163_0:K.out 163 0=some []:=rfl
@[go_sem] theorem live_163_1:K.live 163 1=none:=rfl
@[go_sem] theorem out_163_1:K.out 163 1=none:=rfl
@[go_sem] theorem live_163_2:K.live 163 2=some ([0,2,7,14,15,16,48,49,50],[],[]):=rfl
@[go_sem] theorem out_163_2:K.out 163 2=some [0,2,7,14,15,16]:=rfl
@[go_sem] theorem live_163_3:K.live 163 3=none:=rfl
@[go_sem] theorem out_163_3:K.out 163 3=none:=rfl
@[go_sem] theorem live_163_4:K.live 163 4=some ([0,2,7,14,15,16,66,67,68],[],[]):=rfl
@[go_sem] theorem out_163_4:K.out 163 4=some [0,2,7,14,15,16]:=rfl
@[go_sem] theorem live_163_5:K.live 163 5=none:=rfl
@[go_sem] theorem out_163_5:K.out 163 5=none:=rfl
@[go_sem] theorem live_163_6:K.live 163 6=some ([0,2,7,14,15,16,79,80,81],[],[]):=rfl
@[go_sem] theorem out_163_6:K.out 163 6=some [0,2,7,14,15,16]:=rfl
@[go_sem] theorem live_163_7:K.live 163 7=none:=rfl
@[go_sem] theorem out_163_7:K.out 163 7=none:=rfl
@[go_sem] theorem live_164_0:K.live 164 0=some ([0,2,8,9,10],[],[]):=rfl
@[go_sem] theorem out_164_0:K.out 164 0=some []:=rfl
@[go_sem] theorem live_164_1:K.live 164 1=none:=rfl
@[go_sem] theorem out_164_1:K.out 164 1=none:=rfl
@[go_sem] theorem live_165_0:K.live 165 0=none:=rfl
@[go_sem] theorem out_165_0:K.out 165 0=none:=rfl
@[go_sem] theorem dyn_165_8:K.dyn 165 8=[]:=rfl
@[go_sem] theorem dyn_165_12:K.dyn 165 12=[(9,67)]:=rfl
@[go_sem] theorem live_172_0:K.live 172 0=none:=rfl
@[go_sem] theorem out_172_0:K.out 172 0=none:=rfl
@[go_sem] theorem live_173_0:K.live 173 0=some ([0,5,6],[],[]):=rfl
@[go_sem] theorem out_173_0:K.out 173 0=some []:=rfl
@[go_sem] theorem live_173_1:K.live 173 1=none:=rfl
@[go_sem] theorem out_173_1:K.out 173 1=none:=rfl
@[go_sem] theorem live_174_0:K.live 174 0=some ([0,1,7,8],[],[]):=rfl
@[go_sem] theorem out_174_0:K.out 174 0=some []:=rfl
@[go_sem] theorem live_174_1:K.live 174 1=none:=rfl
@[go_sem] theorem out_174_1:K.out 174 1=none:=rfl
@[go_sem] theorem live_176_0:K.live 176 0=none:=rfl
@[go_sem] theorem out_176_0:K.out 176 0=none:=rfl
@[go_sem] theorem dyn_176_1:K.dyn 176 1=[]:=rfl
@[go_sem] theorem live_177_0:K.live 177 0=none:=rfl
@[go_sem] theorem out_177_0:K.out 177 0=none:=rfl
@[go_sem] theorem live_178_0:K.live 178 0=none:=rfl
@[go_sem] theorem out_178_0:K.out 178 0=none:=rfl
@[go_sem] theorem dyn_178_4:K.dyn 178 4=[]:=rfl
@[go_sem] theorem dyn_178_6:K.dyn 178 6=[]:=rfl
@[go_sem] theorem dyn_178_8:K.dyn 178 8=[]:=rfl
@[go_sem] theorem live_179_0:K.live 179 0=some ([0,1,7,8],[],[]):=rfl
@[go_sem] theorem out_179_0:K.out 179 0=some []:=rfl
@[go_sem] theorem live_179_1:K.live 179 1=none:=rfl
@[go_sem] theorem out_179_1:K.out 179 1=none:=rfl
@[go_sem] theorem live_186_0:K.live 186 0=some ([0,1,7,8],[],[]):=rfl
@[go_sem] theorem out_186_0:K.out 186 0=some []:=rfl
@[go_sem] theorem live_186_1:K.live 186 1=none:=rfl
@[go_sem] theorem out_186_1:K.out 186 1=none:=rfl
@[go_sem] theorem live_189_0:K.live 189 0=some ([0,2,12,13,14],[],[]):=rfl
@[go_sem] theorem out_189_0:K.out 189 0=some []:=rfl
@[go_sem] theorem live_189_1:K.live 189 1=none:=rfl
@[go_sem] theorem out_189_1:K.out 189 1=none:=rfl
@[go_sem] theorem live_191_0:K.live 191 0=some ([0,3,24,25,26],[],[]):=rfl
@[go_sem] theorem out_191_0:K.out 191 0=some [0,3]:=rfl
@[go_sem] theorem live_191_1:K.live 191 1=none:=rfl
@[go_sem] theorem out_191_1:K.out 191 1=none:=rfl
@[go_sem] theorem live_191_2:K.live 191 2=none:=rfl
@[go_sem] theorem out_191_2:K.out 191 2=none:=rfl
@[go_sem] theorem live_191_3:K.live 191 3=some ([3,7,8,73,74,75],[(8,none,3,false)],[]):=rfl
@[go_sem] theorem out_191_3:K.out 191 3=some [3,7,8]:=rfl
@[go_sem] theorem live_191_4:K.live 191 4=none:=rfl
@[go_sem] theorem out_191_4:K.out 191 4=none:=rfl
@[go_sem] theorem live_191_5:K.live 191 5=some ([3,7,8,126,127,128],[(8,none,3,false)],[]):=rfl
@[go_sem] theorem out_191_5:K.out 191 5=some [3,7,8]:=rfl
@[go_sem] theorem live_191_6:K.live 191 6=none:=rfl
@[go_sem] theorem out_191_6:K.out 191 6=none:=rfl
@[go_sem] theorem dyn_191_6:K.dyn 191 6=[]:=rfl
@[go_sem] theorem dyn_191_11:K.dyn 191 11=[]:=rfl
@[go_sem] theorem dyn_191_23:K.dyn 191 23=[]:=rfl
@[go_sem] theorem dyn_191_31:K.dyn 191 31=[(9,155)]:=rfl
@[go_sem] theorem dyn_192_3:K.dyn 192 3=[]:=rfl
@[go_sem] theorem live_193_0:K.live 193 0=none:=rfl
@[go_sem] theorem out_193_0:K.out 193 0=none:=rfl
@[go_sem] theorem dyn_193_1:K.dyn 193 1=[]:=rfl
@[go_sem] theorem dyn_193_5:K.dyn 193 5=[]:=rfl
@[go_sem] theorem live_194_0:K.live 194 0=some ([0,3,18,19,20],[],[]):=rfl
@[go_sem] theorem out_194_0:K.out 194 0=some [0,3]:=rfl
@[go_sem] theorem live_194_1:K.live 194 1=none:=rfl
@[go_sem] theorem out_194_1:K.out 194 1=none:=rfl
@[go_sem] theorem live_194_2:K.live 194 2=none:=rfl
@[go_sem] theorem out_194_2:K.out 194 2=none:=rfl
@[go_sem] theorem dyn_194_4:K.dyn 194 4=[]:=rfl
@[go_sem] theorem live_195_0:K.live 195 0=some ([0,3,64,65,66],[],[]):=rfl
@[go_sem] theorem out_195_0:K.out 195 0=some [0,3]:=rfl
@[go_sem] theorem live_195_1:K.live 195 1=none:=rfl
@[go_sem] theorem out_195_1:K.out 195 1=none:=rfl
@[go_sem] theorem live_195_2:K.live 195 2=some ([0,3,64,65,66,76,77,78],[],[]):=rfl
@[go_sem] theorem out_195_2:K.out 195 2=some [0,3,64,65,66]:=rfl
@[go_sem] theorem live_195_3:K.live 195 3=none:=rfl
@[go_sem] theorem out_195_3:K.out 195 3=none:=rfl
@[go_sem] theorem live_195_4:K.live 195 4=some ([0,92,93,94],[],[]):=rfl
@[go_sem] theorem out_195_4:K.out 195 4=some [0]:=rfl
@[go_sem] theorem live_195_5:K.live 195 5=none:=rfl
@[go_sem] theorem out_195_5:K.out 195 5=none:=rfl
@[go_sem] theorem dyn_195_1:K.dyn 195 1=[(21,31)]:=rfl
@[go_sem] theorem dyn_195_2:K.dyn 195 2=[(27,59)]:=rfl
@[go_sem] theorem live_197_0:K.live 197 0=some ([1,3,4,15,16,17],[],[]):=rfl
@[go_sem] theorem out_197_0:K.out 197 0=some [1,3,4]:=rfl
@[go_sem] theorem live_197_1:K.live 197 1=none:=rfl
@[go_sem] theorem out_197_1:K.out 197 1=none:=rfl
@[go_sem] theorem live_197_2:K.live 197 2=some ([1,3,4,26,27,28],[],[]):=rfl
@[go_sem] theorem out_197_2:K.out 197 2=some [1,3]:=rfl
@[go_sem] theorem live_197_3:K.live 197 3=none:=rfl
@[go_sem] theorem out_197_3:K.out 197 3=none:=rfl
@[go_sem] theorem live_197_4:K.live 197 4=some ([1,3,55,56,57],[],[]):=rfl
@[go_sem] theorem out_197_4:K.out 197 4=some [1,3]:=rfl
@[go_sem] theorem live_197_5:K.live 197 5=none:=rfl
@[go_sem] theorem out_197_5:K.out 197 5=none:=rfl
@[go_sem] theorem live_197_6:K.live 197 6=some ([3,70,71,72],[],[]):=rfl
@[go_sem] theorem out_197_6:K.out 197 6=some [3]:=rfl
@[go_sem] theorem live_197_7:K.live 197 7=none:=rfl
@[go_sem] theorem out_197_7:K.out 197 7=none:=rfl
@[go_sem] theorem dyn_197_12:K.dyn 197 12=[(7,3),(8,41),(8,42)]:=rfl
@[go_sem] theorem dyn_197_14:K.dyn 197 14=[(3,48),(3,51),(6,51)]:=rfl
@[go_sem] theorem dyn_197_18:K.dyn 197 18=[(7,3),(8,66),(8,67)]:=rfl
@[go_sem] theorem dyn_197_23:K.dyn 197 23=[(7,3),(8,81),(8,82)]:=rfl
@[go_sem] theorem live_227_0:K.live 227 0=none:=rfl
@[go_sem] theorem out_227_0:K.out 227 0=none:=rfl
@[go_sem] theorem live_228_0:K.live 228 0=none:=rfl
@[go_sem] theorem out_228_0:K.out 228 0=none:=rfl
@[go_sem] theorem live_228_1:K.live 228 1=some ([1,23,24],[],[]):=rfl
@[go_sem] theorem out_228_1:K.out 228 1=some []:=rfl
@[go_sem] theorem live_228_2:K.live 228 2=none:=rfl
@[go_sem] theorem out_228_2:K.out 228 2=none:=rfl
@[go_sem] theorem live_248_0:K.live 248 0=none:=rfl
@[go_sem] theorem out_248_0:K.out 248 0=none:=rfl
@[go_sem] theorem live_250_0:K.live 250 0=none:=rfl
@[go_sem] theorem out_250_0:K.out 250 0=none:=rfl
@[go_sem] theorem dyn_250_1:K.dyn 250 1=[]:=rfl
@[go_sem] theorem dyn_250_4:K.dyn 250 4=[]:=rfl
@[go_sem] theorem dyn_250_6:K.dyn 250 6=[(6,31)]:=rfl
@[go_sem] theorem live_255_0:K.live 255 0=some ([0,2,8,9,10],[],[]):=rfl
@[go_sem] theorem out_255_0:K.out 255 0=some []:=rfl
@[go_sem] theorem live_255_1:K.live 255 1=none:=rfl
@[go_sem] theorem out_255_1:K.out 255 1=none:=rfl
@[go_sem] theorem live_256_0:K.live 256 0=some ([0,3],[],[]):=rfl
@[go_sem] theorem out_256_0:K.out 256 0=some []:=rfl
@[go_sem] theorem live_256_1:K.live 256 1=none:=rfl
@[go_sem] theorem out_256_1:K.out 256 1=none:=rfl
@[go_sem] theorem live_258_0:K.live 258 0=some ([0,1,7,8],[],[]):=rfl
@[go_sem] theorem out_258_0:K.out 258 0=some []:=rfl
@[go_sem] theorem live_258_1:K.live 258 1=none:=rfl
@[go_sem] theorem out_258_1:K.out 258 1=none:=rfl
@[go_sem] theorem live_259_0:K.live 259 0=some ([0,1,7,8],[],[]):=rfl
@[go_sem] theorem out_259_0:K.out 259 0=some []:=rfl
@[go_sem] theorem live_259_1:K.live 259 1=none:=rfl
@[go_sem] theorem out_259_1:K.out 259 1=none:=rfl
@[go_sem] theorem live_268_0:K.live 268 0=none:=rfl
@[go_sem] theorem out_268_0:K.out 268 0=none:=rfl
@[go_sem] theorem live_269_0:K.live 269 0=none:=rfl
@[go_sem] theorem out_269_0:K.out 269 0=none:=rfl
@[go_sem] theorem live_270_0:K.live 270 0=none:=rfl
@[go_sem] theorem out_270_0:K.out 270 0=none:=rfl
@[go_sem] theorem live_271_0:K.live 271 0=some ([0,1,2,6],[],[]):=rfl
@[go_sem] theorem out_271_0:K.out 271 0=some [6]:=rfl
@[go_sem] theorem live_271_1:K.live 271 1=none:=rfl
@[go_sem] theorem out_271_1:K.out 271 1=none:=rfl
@[go_sem] theorem live_271_2:K.live 271 2=some ([0,1,2,6,21,22,23],[],[]):=rfl
@[go_sem] theorem out_271_2:K.out 271 2=some [0,1,2,6]:=rfl
@[go_sem] theorem live_271_3:K.live 271 3=none:=rfl
@[go_sem] theorem out_271_3:K.out 271 3=none:=rfl
@[go_sem] theorem live_271_4:K.live 271 4=some ([0,1,2,6,21,22,23,32,33,34],[],[]):=rfl
@[go_sem] theorem out_271_4:K.out 271 4=some [0,1,2,6,21,22,23]:=rfl
@[go_sem] theorem live_271_5:K.live 271 5=none:=rfl
@[go_sem] theorem out_271_5:K.out 271 5=none:=rfl
@[go_sem] theorem live_276_0:K.live 276 0=none:=rfl
@[go_sem] theorem out_276_0:K.out 276 0=none:=rfl
@[go_sem] theorem dyn_276_4:K.dyn 276 4=[]:=rfl
@[go_sem] theorem live_283_0:K.live 283 0=some ([0,1,7,8],[],[]):=rfl
@[go_sem] theorem out_283_0:K.out 283 0=some []:=rfl
@[go_sem] theorem live_283_1:K.live 283 1=none:=rfl
@[go_sem] theorem out_283_1:K.out 283 1=none:=rfl
@[go_sem] theorem live_284_0:K.live 284 0=none:=rfl
@[go_sem] theorem out_284_0:K.out 284 0=none:=rfl
@[go_sem] theorem live_289_0:K.live 289 0=some ([0,3,9,59,60,61],[(9,none,1,true)],[]):=rfl
@[go_sem] theorem out_289_0:K.out 289 0=some [0,3,9]:=rfl
@[go_sem] theorem live_289_1:K.live 289 1=none:=rfl
@[go_sem] theorem out_289_1:K.out 289 1=none:=rfl
@[go_sem] theorem live_289_2:K.live 289 2=some ([0,3,9,80,81,82],[],[]):=rfl
@[go_sem] theorem out_289_2:K.out 289 2=some [0,3,9]:=rfl
@[go_sem] theorem live_289_3:K.live 289 3=none:=rfl
@[go_sem] theorem out_289_3:K.out 289 3=none:=rfl
@[go_sem] theorem live_289_4:K.live 289 4=some ([0,3,9,97,98,99],[],[]):=rfl
@[go_sem] theorem out_289_4:K.out 289 4=some [0,3,9]:=rfl
@[go_sem] theorem live_289_5:K.live 289 5=none:=rfl
@[go_sem] theorem out_289_5:K.out 289 5=none:=rfl
@[go_sem] theorem live_289_6:K.live 289 6=some ([0,9,22,115,116,117],[],[]):=rfl
@[go_sem] theorem out_289_6:K.out 289 6=some [9,22]:=rfl
@[go_sem] theorem live_289_7:K.live 289 7=none:=rfl
@[go_sem] theorem out_289_7:K.out 289 7=none:=rfl
@[go_sem] theorem live_290_0:K.live 290 0=none:=rfl
@[go_sem] theorem out_290_0:K.out 290 0=none:=rfl
@[go_sem] theorem live_291_0:K.live 291 0=some ([0,2,4,9,10],[(9,none,3,false)],[]):=rfl
@[go_sem] theorem out_291_0:K.out 291 0=some [0,2,4,9]:=rfl
@[go_sem] theorem live_291_1:K.live 291 1=none:=rfl
@[go_sem] theorem out_291_1:K.out 291 1=none:=rfl
@[go_sem] theorem dyn_291_9:K.dyn 291 9=[]:=rfl
@[go_sem] theorem live_296_0:K.live 296 0=some ([0,8,9,10],[],[]):=rfl
@[go_sem] theorem out_296_0:K.out 296 0=some []:=rfl
@[go_sem] theorem live_296_1:K.live 296 1=none:=rfl
@[go_sem] theorem out_296_1:K.out 296 1=none:=rfl
@[go_sem] theorem dyn_296_5:K.dyn 296 5=[(8,26)]:=rfl
@[go_sem] theorem live_297_0:K.live 297 0=some ([0,3,30,31,32],[],[]):=rfl
@[go_sem] theorem out_297_0:K.out 297 0=some [0,3]:=rfl
@[go_sem] theorem live_297_1:K.live 297 1=none:=rfl
@[go_sem] theorem out_297_1:K.out 297 1=none:=rfl
@[go_sem] theorem live_297_2:K.live 297 2=some ([0,3,47,48,49],[],[]):=rfl
@[go_sem] theorem out_297_2:K.out 297 2=some [0,3]:=rfl
@[go_sem] theorem live_297_3:K.live 297 3=none:=rfl
@[go_sem] theorem out_297_3:K.out 297 3=none:=rfl
@[go_sem] theorem live_297_4:K.live 297 4=some ([0,3,58,59,60],[],[]):=rfl
@[go_sem] theorem out_297_4:K.out 297 4=some [0,3]:=rfl
@[go_sem] theorem live_297_5:K.live 297 5=none:=rfl
@[go_sem] theorem out_297_5:K.out 297 5=none:=rfl
@[go_sem] theorem live_297_6:K.live 297 6=some ([0,3,85,86,87],[],[]):=rfl
@[go_sem] theorem out_297_6:K.out 297 6=some [0,3]:=rfl
@[go_sem] theorem live_297_7:K.live 297 7=none:=rfl
@[go_sem] theorem out_297_7:K.out 297 7=none:=rfl
@[go_sem] theorem live_297_8:K.live 297 8=some ([0,3,85,86,87,97,98,99],[],[]):=rfl
@[go_sem] theorem out_297_8:K.out 297 8=some [0,3,85,86,87]:=rfl
@[go_sem] theorem live_297_9:K.live 297 9=none:=rfl
@[go_sem] theorem out_297_9:K.out 297 9=none:=rfl
@[go_sem] theorem dyn_297_1:K.dyn 297 1=[(14,28)]:=rfl
@[go_sem] theorem live_298_0:K.live 298 0=some ([1,6,7,8],[],[]):=rfl
@[go_sem] theorem out_298_0:K.out 298 0=some []:=rfl
@[go_sem] theorem live_298_1:K.live 298 1=none:=rfl
@[go_sem] theorem out_298_1:K.out 298 1=none:=rfl
@[go_sem] theorem dyn_298_4:K.dyn 298 4=[]:=rfl
@[go_sem] theorem live_351_0:K.live 351 0=some ([0,1,8,9],[],[]):=rfl
@[go_sem] theorem out_351_0:K.out 351 0=some [0]:=rfl
@[go_sem] theorem live_351_1:K.live 351 1=none:=rfl
@[go_sem] theorem out_351_1:K.out 351 1=none:=rfl
@[go_sem] theorem live_355_0:K.live 355 0=some ([0,1,7,8],[],[]):=rfl
@[go_sem] theorem out_355_0:K.out 355 0=some []:=rfl
@[go_sem] theorem live_355_1:K.live 355 1=none:=rfl
@[go_sem] theorem out_355_1:K.out 355 1=none:=rfl
@[go_sem] theorem live_365_0:K.live 365 0=none:=rfl
@[go_sem] theorem out_365_0:K.out 365 0=none:=rfl
@[go_sem] theorem live_366_0:K.live 366 0=none:=rfl
@[go_sem] theorem out_366_0:K.out 366 0=none:=rfl
@[go_sem] theorem dyn_366_36:K.dyn 366 36=[]:=rfl
@[go_sem] theorem live_367_0:K.live 367 0=none:=rfl
@[go_sem] theorem out_367_0:K.out 367 0=none:=rfl
@[go_sem] theorem live_367_1:K.live 367 1=none:=rfl
@[go_sem] theorem out_367_1:K.out 367 1=none:=rfl
@[go_sem] theorem live_368_0:K.live 368 0=some ([4,7,8,9],[],[]):=rfl
@[go_sem] theorem out_368_0:K.out 368 0=some [4]:=rfl
@[go_sem] theorem live_368_1:K.live 368 1=none:=rfl
@[go_sem] theorem out_368_1:K.out 368 1=none:=rfl
@[go_sem] theorem live_369_0:K.live 369 0=some ([1,2,15,16,17],[],[]):=rfl
@[go_sem] theorem out_369_0:K.out 369 0=some []:=rfl
@[go_sem] theorem live_369_1:K.live 369 1=none:=rfl
@[go_sem] theorem out_369_1:K.out 369 1=none:=rfl
@[go_sem] theorem live_370_0:K.live 370 0=some ([1,2,15,16,17],[],[]):=rfl
@[go_sem] theorem out_370_0:K.out 370 0=some []:=rfl
@[go_sem] theorem live_370_1:K.live 370 1=none:=rfl
@[go_sem] theorem out_370_1:K.out 370 1=none:=rfl
@[go_sem] theorem live_377_0:K.live 377 0=some ([1,2,15,16,17],[],[]):=rfl
@[go_sem] theorem out_377_0:K.out 377 0=some []:=rfl
@[go_sem] theorem live_377_1:K.live 377 1=none:=rfl
@[go_sem] theorem out_377_1:K.out 377 1=none:=rfl
@[go_sem] theorem live_378_0:K.live 378 0=some ([6,7,8],[],[]):=rfl
@[go_sem] theorem out_378_0:K.out 378 0=some []:=rfl
@[go_sem] theorem live_378_1:K.live 378 1=none:=rfl
@[go_sem] theorem out_378_1:K.out 378 1=none:=rfl
@[go_sem] theorem live_382_0:K.live 382 0=none:=rfl
@[go_sem] theorem out_382_0:K.out 382 0=none:=rfl
@[go_sem] theorem live_383_0:K.live 383 0=none:=rfl
@[go_sem] theorem out_383_0:K.out 383 0=none:=rfl
@[go_sem] theorem live_383_1:K.live 383 1=none:=rfl
@[go_sem] theorem out_383_1:K.out 383 1=none:=rfl
@[go_sem] theorem live_383_2:K.live 383 2=none:=rfl
@[go_sem] theorem out_383_2:K.out 383 2=none:=rfl
@[go_sem] theorem live_384_0:K.live 384 0=none:=rfl
@[go_sem] theorem out_384_0:K.out 384 0=none:=rfl
@[go_sem] theorem dyn_384_13:K.dyn 384 13=[]:=rfl
@[go_sem] theorem dyn_384_32:K.dyn 384 32=[]:=rfl
@[go_sem] theorem live_385_0:K.live 385 0=none:=rfl
@[go_sem] theorem out_385_0:K.out 385 0=none:=rfl
@[go_sem] theorem live_385_1:K.live 385 1=none:=rfl
@[go_sem] theorem out_385_1:K.out 385 1=none:=rfl
@[go_sem] theorem live_389_0:K.live 389 0=some ([0,17,18,19],[],[]):=rfl
@[go_sem] theorem out_389_0:K.out 389 0=some [0]:=rfl
@[go_sem] theorem live_389_1:K.live 389 1=none:=rfl
@[go_sem] theorem out_389_1:K.out 389 1=none:=rfl
@[go_sem] theorem dyn_389_1:K.dyn 389 1=[(9,15)]:=rfl
@[go_sem] theorem live_434_0:K.live 434 0=some ([0,1,7,8],[],[]):=rfl
@[go_sem] theorem out_434_0:K.out 434 0=some []:=rfl
@[go_sem] theorem live_434_1:K.live 434 1=none:=rfl
@[go_sem] theorem out_434_1:K.out 434 1=none:=rfl
@[go_sem] theorem live_435_0:K.live 435 0=some ([0,1,7,8],[],[]):=rfl
@[go_sem] theorem out_435_0:K.out 435 0=some []:=rfl
@[go_sem] theorem live_435_1:K.live 435 1=none:=rfl
@[go_sem] theorem out_435_1:K.out 435 1=none:=rfl
@[go_sem] theorem live_437_0:K.live 437 0=none:=rfl
@[go_sem] theorem out_437_0:K.out 437 0=none:=rfl
@[go_sem] theorem live_438_0:K.live 438 0=some ([0,7,8,9],[],[]):=rfl
@[go_sem] theorem out_438_0:K.out 438 0=some []:=rfl
@[go_sem] theorem live_438_1:K.live 438 1=none:=rfl
@[go_sem] theorem out_438_1:K.out 438 1=none:=rfl
@[go_sem] theorem live_439_0:K.live 439 0=none:=rfl
@[go_sem] theorem out_439_0:K.out 439 0=none:=rfl
@[go_sem] theorem dyn_439_1:K.dyn 439 1=[]:=rfl
@[go_sem] theorem live_440_0:K.live 440 0=some ([1,2,15,16,17],[],[]):=rfl
@[go_sem] theorem out_440_0:K.out 440 0=some []:=rfl
@[go_sem] theorem live_440_1:K.live 440 1=none:=rfl
@[go_sem] theorem out_440_1:K.out 440 1=none:=rfl
@[go_sem] theorem live_441_0:K.live 441 0=some ([1,2,15,16,17],[],[]):=rfl
@[go_sem] theorem out_441_0:K.out 441 0=some []:=rfl
@[go_sem] theorem live_441_1:K.live 441 1=none:=rfl
@[go_sem] theorem out_441_1:K.out 441 1=none:=rfl
@[go_sem] theorem live_442_0:K.live 442 0=some ([1,2,15,16,17],[],[]):=rfl
@[go_sem] theorem out_442_0:K.out 442 0=some []:=rfl
@[go_sem] theorem live_442_1:K.live 442 1=none:=rfl
@[go_sem] theorem out_442_1:K.out 442 1=none:=rfl
@[go_sem] theorem live_445_0:K.live 445 0=none:=rfl
@[go_sem] theorem out_445_0:K.out 445 0=none:=rfl
@[go_sem] theorem live_450_0:K.live 450 0=some ([0,2,11,12,13],[],[]):=rfl
@[go_sem] theorem out_450_0:K.out 450 0=some [0]:=rfl
@[go_sem] theorem live_450_1:K.live 450 1=none:=rfl
@[go_sem] theorem out_450_1:K.out 450 1=none:=rfl
@[go_sem] theorem live_451_0:K.live 451 0=some ([0,1,2,8,9,10,17,18,19],[],[]):=rfl
@[go_sem] theorem out_451_0:K.out 451 0=some [0,1,2,9,10]:=rfl
@[go_sem] theorem live_451_1:K.live 451 1=none:=rfl
@[go_sem] theorem out_451_1:K.out 451 1=none:=rfl
@[go_sem] theorem live_451_2:K.live 451 2=some ([0,1,2,8,9,10,12,17,18,19,25,26,27],[],[]):=rfl
@[go_sem] theorem out_451_2:K.out 451 2=some [0,1,2,8,9,10,17,18,19]:=rfl
@[go_sem] theorem live_451_3:K.live 451 3=none:=rfl
@[go_sem] theorem out_451_3:K.out 451 3=none:=rfl
@[go_sem] theorem live_451_4:K.live 451 4=none:=rfl
@[go_sem] theorem out_451_4:K.out 451 4=none:=rfl
@[go_sem] theorem live_451_5:K.live 451 5=none:=rfl
@[go_sem] theorem out_451_5:K.out 451 5=none:=rfl
@[go_sem] theorem live_454_0:K.live 454 0=some ([0,1,2,3,4],[(0,none,1,false)],[]):=rfl
@[go_sem] theorem out_454_0:K.out 454 0=some [0,2]:=rfl
@[go_sem] theorem live_454_1:K.live 454 1=none:=rfl
@[go_sem] theorem out_454_1:K.out 454 1=none:=rfl
@[go_sem] theorem live_487_0:K.live 487 0=none:=rfl
@[go_sem] theorem out_487_0:K.out 487 0=none:=rfl
@[go_sem] theorem live_489_0:K.live 489 0=some ([0,1,7,8],[],[]):=rfl
@[go_sem] theorem out_489_0:K.out 489 0=some []:=rfl
@[go_sem] theorem live_489_1:K.live 489 1=none:=rfl
@[go_sem] theorem out_489_1:K.out 489 1=none:=rfl
theorem call_3:CallT 3 Tryz.f3:=fun _ _=>R_call rfl rfl (by decide +kernel) rfl Tryz.func3 rfl
@[go_sem] theorem ret_3 (k:Nat) (fr:Fr) (h:Heap):retOf K 3 k fr h=leaving 0 k h (resL Tryz.prog fr h [.tmp 2]):=ret_of Tryz.func3 rfl rfl
theorem call_4:CallT 4 Tryz.f4:=fun _ _=>R_call rfl rfl (by decide +kernel) rfl Tryz.func4 rfl
@[go_sem] theorem ret_4 (k:Nat) (fr:Fr) (h:Heap):retOf K 4 k fr h=leaving 0 k h (resL Tryz.prog fr h [.cell 2 32]):=ret_of Tryz.func4 rfl rfl
theorem call_5:CallT 5 Tryz.f5:=fun _ _=>R_call rfl rfl (by decide +kernel) rfl Tryz.func5 rfl
@[go_sem] theorem ret_5 (k:Nat) (fr:Fr) (h:Heap):retOf K 5 k fr h=leaving 0 k h (resL Tryz.prog fr h [.tmp 4]):=ret_of Tryz.func5 rfl rfl
theorem call_6:CallT 6 Tryz.f6:=fun _ _=>R_call rfl rfl (by decide +kernel) rfl Tryz.func6 rfl
@[go_sem] theorem ret_6 (k:Nat) (fr:Fr) (h:Heap):retOf K 6 k fr h=leaving 0 k h (resL Tryz.prog fr h [.tmp 4]):=ret_of Tryz.func6 rfl rfl
theorem call_7:CallT 7 Tryz.f7:=fun _ _=>R_call rfl rfl (by decide +kernel) rfl Tryz.func7 rfl
@[go_sem] theorem ret_7 (k:Nat) (fr:Fr) (h:Heap):retOf K 7 k fr h=leaving 0 k h (resL Tryz.prog fr h [.cell 4 32]):=ret_of Tryz.func7 rfl rfl
theorem call_9:CallT 9 Tryz.f9:=fun _ _=>R_call rfl rfl (by decide +kernel) rfl Tryz.func9 rfl
@[go_sem] theorem ret_9 (k:Nat) (fr:Fr) (h:Heap):retOf K 9 k fr h=leaving 0 k h (resL Tryz.prog fr h [.tmp 4]):=ret_of Tryz.func9 rfl rfl
theorem call_10:CallT 10 Tryz.f10:=fun _ _=>R_call rfl rfl (by decide +kernel) rfl Tryz.func10 rfl
@[go_sem] theorem ret_10 (k:Nat) (fr:Fr) (h:Heap):retOf K 10 k fr h=leaving 0 k h (resL Tryz.prog fr h [.tmp 4]):=ret_of Tryz.func10 rfl rfl
theorem call_12:CallT 12 Tryz.f12:=fun _ _=>R_call rfl rfl (by decide +kernel) rfl Tryz.func12 rfl
@[go_sem] theorem ret_12 (k:Nat) (fr:Fr) (h:Heap):retOf K 12 k fr h=leaving 0 k h (resL Tryz.prog fr h [.tmp 4]):=ret_of Tryz.func12 rfl rfl
theorem call_13:CallT 13 Tryz.f13:=fun _ _=>R_call rfl rfl (by decide +kernel) rfl Tryz.func13 rfl
@[go_sem] theorem ret_13 (k:Nat) (fr:Fr) (h:Heap):retOf K 13 k fr h=leaving 0 k h (resL Tryz.prog fr h [.cell 0 56]):=ret_of Tryz.func13 rfl rfl
theorem call_14:CallT 14 Tryz.f14:=fun _ _=>R_call rfl rfl (by decide +kernel) rfl Tryz.func14 rfl
@[go_sem] theorem ret_14 (k:Nat) (fr:Fr) (h:Heap):retOf K 14 k fr h=leaving 0 k h (resL Tryz.prog fr h [.tmp 4]):=ret_of Tryz.func14 rfl rfl
theorem call_15:CallT 15 Tryz.f15:=fun _ _=>R_call rfl rfl (by decide +kernel) rfl Tryz.func15 rfl
@[go_sem] theorem ret_15 (k:Nat) (fr:Fr) (h:Heap):retOf K 15 k fr h=leaving 0 k h (resL Tryz.prog fr h [.tmp 4]):=ret_of Tryz.func15 rfl rfl
theorem call_16:CallT 16 Tryz.f16:=fun _ _=>R_call rfl rfl (by decide +kernel) rfl Tryz.func16 rfl
@[go_sem] theorem ret_16 (k:Nat) (fr:Fr) (h:Heap):retOf K 16 k fr h=leaving 0 k h (resL Tryz.prog fr h [.tmp 4,.tmp 5]):=ret_of Tryz.func16 rfl rfl
theorem call_19 (args:List AV) (h:Heap):R K (.call 19 args h)=R K (.run 19 (ownedB (entry 0 args) h [(0,1,5)]).length [.code (Tryz.f19.body.getD .skip)] (entry 0 args) (ownedB (entry 0 args) h [(0,1,5)])):=R_callO rfl rfl (by decide +kernel) rfl Tryz.func19 rfl
@[go_sem] theorem ret_19 (k:Nat) (fr:Fr) (h:Heap):retOf K 19 k fr h=leaving 0 k h (resL Tryz.prog fr h [.tmp 4,.tmp 5]):=ret_of Tryz.func19 rfl rfl
theorem call_24:CallT 24 Tryz.f24:=fun _ _=>R_call rfl rfl (by decide +kernel) rfl Tryz.func24 rfl
@[go_sem] theorem ret_24 (k:Nat) (fr:Fr) (h:Heap):retOf K 24 k fr h=leaving 0 k h (resL Tryz.prog fr h [.tmp 4,.tmp 5]):=ret_of Tryz.func24 rfl rfl
theorem call_25:CallT 25 Tryz.f25:=fun _ _=>R_call rfl rfl (by decide +kernel) rfl Tryz.func25 rfl
@[go_sem] theorem ret_25 (k:Nat) (fr:Fr) (h:Heap):retOf K 25 k fr h=leaving 0 k h (resL Tryz.prog fr h [.tmp 4,.tmp 5]):=ret_of Tryz.func25 rfl rfl
theorem call_31:CallT 31 Tryz.f31:=fun _ _=>R_call rfl rfl (by decide +kernel) rfl Tryz.func31 rfl
@[go_sem] theorem ret_31 (k:Nat) (fr:Fr) (h:Heap):retOf K 31 k fr h=leaving 0 k h (resL Tryz.prog fr h [.tmp 6]):=ret_of Tryz.func31 rfl rfl
theorem call_36:CallT 36 Tryz.f36:=fun _ _=>R_call rfl rfl (by decide +kernel) rfl Tryz.func36 rfl
@[go_sem] theorem ret_36 (k:Nat) (fr:Fr) (h:Heap):retOf K 36 k fr h=leaving 0 k h (resL Tryz.prog fr h [.tmp 2]):=ret_of Tryz.func36 rfl rfl
theorem call_37:CallT 37 Tryz.f37:=fun _ _=>R_call rfl rfl (by decide +kernel) rfl Tryz.func37 rfl
@[go_sem] theorem ret_37 (k:Nat) (fr:Fr) (h:Heap):retOf K 37 k fr h=leaving 0 k h (resL Tryz.prog fr h [.tmp 2]):=ret_of Tryz.func37 rfl rfl
theorem call_38:CallT 38 Tryz.f38:=fun _ _=>R_call rfl rfl (by decide +kernel) rfl Tryz.func38 rfl
@[go_sem] theorem ret_38 (k:Nat) (fr:Fr) (h:Heap):retOf K 38 k fr h=leaving 0 k h (resL Tryz.prog fr h [.tmp 2]):=ret_of Tryz.func38 rfl rfl
theorem call_39:CallT 39 Tryz.f39:=fun _ _=>R_call rfl rfl (by decide +kernel) rfl Tryz.func39 rfl
@[go_sem] theorem ret_39 (k:Nat) (fr:Fr) (h:Heap):retOf K 39 k fr h=leaving 0 k h (resL Tryz.prog fr h [.tmp 6,.tmp 7]):=ret_of Tryz.func39 rfl rfl
theorem call_40:CallT 40 Tryz.f40:=fun _ _=>R_call rfl rfl (by decide +kernel) rfl Tryz.func40 rfl
@[go_sem] theorem ret_40 (k:Nat) (fr:Fr) (h:Heap):retOf K 40 k fr h=leaving 0 k h (resL Tryz.prog fr h [.tmp 4]):=ret_of Tryz.func40 rfl rfl
theorem call_41:CallT 41 Tryz.f41:=fun _ _=>R_call rfl rfl (by decide +kernel) rfl Tryz.func41 rfl
@[go_sem] theorem ret_41 (k:Nat) (fr:Fr) (h:Heap):retOf K 41 k fr h=leaving 0 k h (resL Tryz.prog fr h [.tmp 6]):=ret_of Tryz.func41 rfl rfl
theorem call_42:CallT 42 Tryz.f42:=fun _ _=>R_call rfl rfl (by decide +kernel) rfl Tryz.func42 rfl
@[go_sem] theorem ret_42 (k:Nat) (fr:Fr) (h:Heap):retOf K 42 k fr h=leaving 0 k h (resL Tryz.prog fr h [.tmp 6]):=ret_of Tryz.func42 rfl rfl
theorem call_43:CallT 43 Tryz.f43:=fun _ _=>R_call rfl rfl (by decide +kernel) rfl Tryz.func43 rfl
@[go_sem] theorem ret_43 (k:Nat) (fr:Fr) (h:Heap):retOf K 43 k fr h=leaving 0 k h (resL Tryz.prog fr h [.tmp 2]):=ret_of Tryz.func43 rfl rfl
theorem call_44:CallT 44 Tryz.f44:=fun _ _=>R_call rfl rfl (by decide +kernel) rfl Tryz.func44 rfl
@[go_sem] theorem ret_44 (k:Nat) (fr:Fr) (h:Heap):retOf K 44 k fr h=leaving 0 k h (resL Tryz.prog fr h [.tmp 2]):=ret_of Tryz.func44 rfl rfl
theorem call_45:CallT 45 Tryz.f45:=fun _ _=>R_call rfl rfl (by decide +kernel) rfl Tryz.func45 rfl
@[go_sem] theorem ret_45 (k:Nat) (fr:Fr) (h:Heap):retOf K 45 k fr h=leaving 0 k h (resL Tryz.prog fr h [.tmp 6]):=ret_of Tryz.func45 rfl rfl
theorem call_46:CallT 46 Tryz.f46:=fun _ _=>R_call rfl rfl (by decide +kernel) rfl Tryz.func46 rfl
@[go_sem] theorem ret_46 (k:Nat) (fr:Fr) (h:Heap):retOf K 46 k fr h=leaving 0 k h (resL Tryz.prog fr h [.tmp 2]):=ret_of Tryz.func46 rfl rfl
theorem call_47:CallT 47 Tryz.f47:=fun _ _=>R_call rfl rfl (by decide +kernel) rfl Tryz.func47 rfl
@[go_sem] theorem ret_47 (k:Nat) (fr:Fr) (h:Heap):retOf K 47 k fr h=leaving 0 k h (resL Tryz.prog fr h [.tmp 4,.tmp 5]):=ret_of Tryz.func47 rfl rfl
theorem call_48:CallT 48 Tryz.f48:=fun _ _=>R_call rfl rfl (by decide +kernel) rfl Tryz.func48 rfl
@[go_sem] theorem ret_48 (k:Nat) (fr:Fr) (h:Heap):retOf K 48 k fr h=leaving 0 k h (resL Tryz.prog fr h [.tmp 4]):=ret_of Tryz.func48 rfl rfl
theorem call_49:CallT 49 Tryz.f49:=fun _ _=>R_call rfl rfl (by decide +kernel) rfl Tryz.func49 rfl
@[go_sem] theorem ret_49 (k:Nat) (fr:Fr) (h:Heap):retOf K 49 k fr h=leaving 0 k h (resL Tryz.prog fr h [.tmp 6]):=ret_of Tryz.func49 rfl rfl
theorem call_50:CallT 50 Tryz.f50:=fun _ _=>R_call rfl rfl (by decide +kernel) rfl Tryz.func50 rfl
@[go_sem] theorem ret_50 (k:Nat) (fr:Fr) (h:Heap):retOf K 50 k fr h=leaving 0 k h (resL Tryz.prog fr h [.tmp 6]):=ret_of Tryz.func50 rfl rfl
theorem call_70:CallT 70 Tryz.f70:=fun _ _=>R_call rfl rfl (by decide +kernel) rfl Tryz.func70 rfl
@[go_sem] theorem ret_70 (k:Nat) (fr:Fr) (h:Heap):retOf K 70 k fr h=leaving 0 k h (resL Tryz.prog fr h [.tmp 2]):=ret_of Tryz.func70 rfl rfl
theorem call_71:CallT 71 Tryz.f71:=fun _ _=>R_call rfl rfl (by decide +kernel) rfl Tryz.func71 rfl
@[go_sem] theorem ret_71 (k:Nat) (fr:Fr) (h:Heap):retOf K 71 k fr h=leaving 0 k h (resL Tryz.prog fr h [.tmp 1]):=ret_of Tryz.func71 rfl rfl
theorem call_72:CallT 72 Tryz.f72:=fun _ _=>R_call rfl rfl (by decide +kernel) rfl Tryz.func72 rfl
@[go_sem] theorem ret_72 (k:Nat) (fr:Fr) (h:Heap):retOf K 72 k fr h=leaving 0 k h (resL Tryz.prog fr h [.tmp 4]):=ret_of Tryz.func72 rfl rfl
theorem call_73:CallT 73 Tryz.f73:=fun _ _=>R_call rfl rfl (by decide +kernel) rfl Tryz.func73 rfl
@[go_sem] theorem ret_73 (k:Nat) (fr:Fr) (h:Heap):retOf K 73 k fr h=leaving 0 k h (resL Tryz.prog fr h [.tmp 3]):=ret_of Tryz.func73 rfl rfl
theorem call_74:CallT 74 Tryz.f74:=fun _ _=>R_call rfl rfl (by decide +kernel) rfl Tryz.func74 rfl
@[go_sem] theorem ret_74 (k:Nat) (fr:Fr) (h:Heap):retOf K 74 k fr h=leaving 0 k h (resL Tryz.prog fr h [.tmp 4]):=ret_of Tryz.func74 rfl rfl
theorem call_75:CallT 75 Tryz.f75:=fun _ _=>R_call rfl rfl (by decide +kernel) rfl Tryz.func75 rfl
@[go_sem] theorem ret_75 (k:Nat) (fr:Fr) (h:Heap):retOf K 75 k fr h=leaving 0 k h (resL Tryz.prog fr h [.tmp 1]):=ret_of Tryz.func75 rfl rfl
theorem call_76:CallT 76 Tryz.f76:=fun _ _=>R_call rfl rfl (by decide +kernel) rfl Tryz.func76 rfl
@[go_sem] theorem ret_76 (k:Nat) (fr:Fr) (h:Heap):retOf K 76 k fr h=leaving 0 k h (resL Tryz.prog fr h [.tmp 3]):=ret_of Tryz.func76 rfl rfl
theorem call_77:CallT 77 Tryz.f77:=fun _ _=>R_call rfl rfl (by decide +kernel) rfl Tryz.func77 rfl
@[go_sem] theorem ret_77 (k:Nat) (fr:Fr) (h:Heap):retOf K 77 k fr h=leaving 0 k h (resL Tryz.prog fr h [.tmp 4]):=ret_of Tryz.func77 rfl rfl
theorem call_78:CallT 78 Tryz.f78:=fun _ _=>R_call rfl rfl (by decide +kernel) rfl Tryz.func78 rfl
@[go_sem] theorem ret_78 (k:Nat) (fr:Fr) (h:Heap):retOf K 78 k fr h=leaving 0 k h (resL Tryz.prog fr h [.tmp 6]):=ret_of Tryz.func78 rfl rfl
theorem call_79:CallT 79 Tryz.f79:=fun _ _=>R_call rfl rfl (by decide +kernel) rfl Tryz.func79 rfl
@[go_sem] theorem ret_79 (k:Nat) (fr:Fr) (h:Heap):retOf K 79 k fr h=leaving 3 k h (resL Tryz.prog fr h [.tmp 2]):=ret_of Tryz.func79 rfl rfl
theorem call_80:CallT 80 Tryz.f80:=fun _ _=>R_call rfl rfl (by decide +kernel) rfl Tryz.func80 rfl
@[go_sem] theorem ret_80 (k:Nat) (fr:Fr) (h:Heap):retOf K 80 k fr h=leaving 0 k h (resL Tryz.prog fr h [.tmp 2]):=ret_of Tryz.func80 rfl rfl
theorem call_81:CallT 81 Tryz.f81:=fun _ _=>R_call rfl rfl (by decide +kernel) rfl Tryz.func81 rfl
@[go_sem] theorem ret_81 (k:Nat) (fr:Fr) (h:Heap):retOf K 81 k fr h=leaving 3 k h (resL Tryz.prog fr h [.tmp 6]):=ret_of Tryz.func81 rfl rfl
theorem call_82:CallT 82 Tryz.f82:=fun _ _=>R_call rfl rfl (by decide +kernel) rfl Tryz.func82 rfl
@[go_sem] theorem ret_82 (k:Nat) (fr:Fr) (h:Heap):retOf K 82 k fr h=leaving 0 k h (resL Tryz.prog fr h [.tmp 8]):=ret_of Tryz.func82 rfl rfl
theorem call_83:CallT 83 Tryz.f83:=fun _ _=>R_call rfl rfl (by decide +kernel) rfl Tryz.func83 rfl
@[go_sem] theorem ret_83 (k:Nat) (fr:Fr) (h:Heap):retOf K 83 k fr h=leaving 0 k h (resL Tryz.prog fr h [.tmp 8,.tmp 9]):=ret_of Tryz.func83 rfl rfl
theorem call_84:CallT 84 Tryz.f84:=fun _ _=>R_call rfl rfl (by decide +kernel) rfl Tryz.func84 rfl
@[go_sem] theorem ret_84 (k:Nat) (fr:Fr) (h:Heap):retOf K 84 k fr h=leaving 0 k h (resL Tryz.prog fr h [.tmp 2]):=ret_of Tryz.func84 rfl rfl
theorem call_85:CallT 85 Tryz.f85:=fun _ _=>R_call rfl rfl (by decide +kernel) rfl Tryz.func85 rfl
@[go_sem] theorem ret_85 (k:Nat) (fr:Fr) (h:Heap):retOf K 85 k fr h=leaving 0 k h (resL Tryz.prog fr h [.tmp 4]):=ret_of Tryz.func85 rfl rfl
theorem call_86:CallT 86 Tryz.f86:=fun _ _=>R_call rfl rfl (by decide +kernel) rfl Tryz.func86 rfl
@[go_sem] theorem ret_86 (k:Nat) (fr:Fr) (h:Heap):retOf K 86 k fr h=leaving 0 k h (resL Tryz.prog fr h [.tmp 4]):=ret_of Tryz.func86 rfl rfl
theorem call_87:CallT 87 Tryz.f87:=fun _ _=>R_call rfl rfl (by decide +kernel) rfl Tryz.func87 rfl
@[go_sem] theorem ret_87 (k:Nat) (fr:Fr) (h:Heap):retOf K 87 k fr h=leaving 0 k h (resL Tryz.prog fr h [.tmp 2]):=ret_of Tryz.func87 rfl rfl
theorem call_88:CallT 88 Tryz.f88:=fun _ _=>R_call rfl rfl (by decide +kernel) rfl Tryz.func88 rfl
@[go_sem] theorem ret_88 (k:Nat) (fr:Fr) (h:Heap):retOf K 88 k fr h=leaving 0 k h (resL Tryz.prog fr h [.tmp 4]):=ret_of Tryz.func88 rfl rfl
theorem call_89:CallT 89 Tryz.f89:=fun _ _=>R_call rfl rfl (by decide +kernel) rfl Tryz.func89 rfl
@[go_sem] theorem ret_89 (k:Nat) (fr:Fr) (h:Heap):retOf K 89 k fr h=leaving 0 k h (resL Tryz.prog fr h [.tmp 3]):=ret_of Tryz.func89 rfl rfl
theorem call_90:CallT 90 Tryz.f90:=fun _ _=>R_call rfl rfl (by decide +kernel) rfl Tryz.func90 rfl
@[go_sem] theorem ret_90 (k:Nat) (fr:Fr) (h:Heap):retOf K 90 k fr h=leaving 0 k h (resL Tryz.prog fr h [.tmp 8,.tmp 9]):=ret_of Tryz.func90 rfl rfl
theorem call_91:CallT 91 Tryz.f91:=fun _ _=>R_call rfl rfl (by decide +kernel) rfl Tryz.func91 rfl
@[go_sem] theorem ret_91 (k:Nat) (fr:Fr) (h:Heap):retOf K 91 k fr h=leaving 0 k h (resL Tryz.prog fr h [.tmp 4]):=ret_of Tryz.func91 rfl rfl
theorem call_92:CallT 92 Tryz.f92:=fun _ _=>R_call rfl rfl (by decide +kernel) rfl Tryz.func92 rfl
@[go_sem] theorem ret_92 (k:Nat) (fr:Fr) (h:Heap):retOf K 92 k fr h=leaving 0 k h (resL Tryz.prog fr h [.tmp 3]):=ret_of Tryz.func92 rfl rfl
theorem call_93:CallT 93 Tryz.f93:=fun _ _=>R_call rfl rfl (by decide +kernel) rfl Tryz.func93 rfl
@[go_sem] theorem ret_93 (k:Nat) (fr:Fr) (h:Heap):retOf K 93 k fr h=leaving 0 k h (resL Tryz.prog fr h [.tmp 4]):=ret_of Tryz.func93 rfl rfl
theorem call_94:CallT 94 Tryz.f94:=fun _ _=>R_call rfl rfl (by decide +kernel) rfl Tryz.func94 rfl
@[go_sem] theorem ret_94 (k:Nat) (fr:Fr) (h:Heap):retOf K 94 k fr h=leaving 0 k h (resL Tryz.prog fr h [.tmp 4]):=ret_of Tryz.func94 rfl rfl
theorem call_95:CallT 95 Tryz.f95:=fun _ _=>R_call rfl rfl (by decide +kernel) rfl Tryz.func95 rfl
@[go_sem] theorem ret_95 (k:Nat) (fr:Fr) (h:Heap):retOf K 95 k fr h=leaving 0 k h (resL Tryz.prog fr h [.tmp 10]):=ret_of Tryz.func95 rfl rfl
theorem call_96:CallT 96 Tryz.f96:=fun _ _=>R_call rfl rfl (by decide +kernel) rfl Tryz.func96 rfl
@[go_sem] theorem ret_96 (k:Nat) (fr:Fr) (h:Heap):retOf K 96 k fr h=leaving 0 k h (resL Tryz.prog fr h [.tmp 6]):=ret_of Tryz.func96 rfl rfl
theorem call_97:CallT 97 Tryz.f97:=fun _ _=>R_call rfl rfl (by decide +kernel) rfl Tryz.func97 rfl
@[go_sem] theorem ret_97 (k:Nat) (fr:Fr) (h:Heap):retOf K 97 k fr h=leaving 0 k h (resL Tryz.prog fr h [.cell 4 208]):=ret_of Tryz.func97 rfl rfl
theorem call_98:CallT 98 Tryz.f98:=fun _ _=>R_call rfl rfl (by decide +kernel) rfl Tryz.func98 rfl
@[go_sem] theorem ret_98 (k:Nat) (fr:Fr) (h:Heap):retOf K 98 k fr h=leaving 0 k h (resL Tryz.prog fr h [.tmp 6]):=ret_of Tryz.func98 rfl rfl
theorem call_99:CallT 99 Tryz.f99:=fun _ _=>R_call rfl rfl (by decide +kernel) rfl Tryz.func99 rfl
@[go_sem] theorem ret_99 (k:Nat) (fr:Fr) (h:Heap):retOf K 99 k fr h=leaving 0 k h (resL Tryz.prog fr h [.tmp 2]):=ret_of Tryz.func99 rfl rfl
theorem call_100:CallT 100 Tryz.f100:=fun _ _=>R_call rfl rfl (by decide +kernel) rfl Tryz.func100 rfl
@[go_sem] theorem ret_100 (k:Nat) (fr:Fr) (h:Heap):retOf K 100 k fr h=leaving 0 k h (resL Tryz.prog fr h [.tmp 4]):=ret_of Tryz.func100 rfl rfl
theorem call_101:CallT 101 Tryz.f101:=fun _ _=>R_call rfl rfl (by decide +kernel) rfl Tryz.func101 rfl
@[go_sem] theorem ret_101 (k:Nat) (fr:Fr) (h:Heap):retOf K 101 k fr h=leaving 0 k h (resL Tryz.prog fr h []):=ret_of Tryz.func101 rfl rfl
theorem call_102:CallT 102 Tryz.f102:=fun _ _=>R_call rfl rfl (by decide +kernel) rfl Tryz.func102 rfl
@[go_sem] theorem ret_102 (k:Nat) (fr:Fr) (h:Heap):retOf K 102 k fr h=leaving 0 k h (resL Tryz.prog fr h []):=ret_of Tryz.func102 rfl rfl
theorem call_103:CallT 103 Tryz.f103:=fun _ _=>R_call rfl rfl (by decide +kernel) rfl Tryz.func103 rfl
@[go_sem] theorem ret_103 (k:Nat) (fr:Fr) (h:Heap):retOf K 103 k fr h=leaving 0 k h (resL Tryz.prog fr h [.tmp 2]):=ret_of Tryz.func103 rfl rfl
theorem call_104:CallT 104 Tryz.f104:=fun _ _=>R_call rfl rfl (by decide +kernel) rfl Tryz.func104 rfl
@[go_sem] theorem ret_104 (k:Nat) (fr:Fr) (h:Heap):retOf K 104 k fr h=leaving 2 k h (resL Tryz.prog fr h [.tmp 2]):=ret_of Tryz.func104 rfl rfl
theorem call_105:CallT 105 Tryz.f105:=fun _ _=>R_call rfl rfl (by decide +kernel) rfl Tryz.func105 rfl
@[go_sem] theorem ret_105 (k:Nat) (fr:Fr) (h:Heap):retOf K 105 k fr h=leaving 0 k h (resL Tryz.prog fr h [.tmp 4]):=ret_of Tryz.func105 rfl rfl
theorem call_106:CallT 106 Tryz.f106:=fun _ _=>R_call rfl rfl (by decide +kernel) rfl Tryz.func106 rfl
@[go_sem] theorem ret_106 (k:Nat) (fr:Fr) (h:Heap):retOf K 106 k fr h=leaving 0 k h (resL Tryz.prog fr h [.tmp 6]):=ret_of Tryz.func106 rfl rfl
theorem call_107:CallT 107 Tryz.f107:=fun _ _=>R_call rfl rfl (by decide +kernel) rfl Tryz.func107 rfl
@[go_sem] theorem ret_107 (k:Nat) (fr:Fr) (h:Heap):retOf K 107 k fr h=leaving 0 k h (resL Tryz.prog fr h [.tmp 8,.tmp 9]):=ret_of Tryz.func107 rfl rfl
theorem call_108:CallT 108 Tryz.f108:=fun _ _=>R_call rfl rfl (by decide +kernel) rfl Tryz.func108 rfl
@[go_sem] theorem ret_108 (k:Nat) (fr:Fr) (h:Heap):retOf K 108 k fr h=leaving 0 k h (resL Tryz.prog fr h [.tmp 2]):=ret_of Tryz.func108 rfl rfl
theorem call_109:CallT 109 Tryz.f109:=fun _ _=>R_call rfl rfl (by decide +kernel) rfl Tryz.func109 rfl
@[go_sem] theorem ret_109 (k:Nat) (fr:Fr) (h:Heap):retOf K 109 k fr h=leaving 0 k h (resL Tryz.prog fr h [.tmp 2]):=ret_of Tryz.func109 rfl rfl
theorem call_110:CallT 110 Tryz.f110:=fun _ _=>R_call rfl rfl (by decide +kernel) rfl Tryz.func110 rfl
@[go_sem] theorem ret_110 (k:Nat) (fr:Fr) (h:Heap):retOf K 110 k fr h=leaving 0 k h (resL Tryz.prog fr h [.tmp 6,.tmp 7]):=ret_of Tryz.func110 rfl rfl
theorem call_111:CallT 111 Tryz.f111:=fun _ _=>R_call rfl rfl (by decide +kernel) rfl Tryz.func111 rfl
@[go_sem] theorem ret_111 (k:Nat) (fr:Fr) (h:Heap):retOf K 111 k fr h=leaving 0 k h (resL Tryz.prog fr h [.tmp 4]):=ret_of Tryz.func111 rfl rfl
theorem call_112:CallT 112 Tryz.f112:=fun _ _=>R_call rfl rfl (by decide +kernel) rfl Tryz.func112 rfl
@[go_sem] theorem ret_112 (k:Nat) (fr:Fr) (h:Heap):retOf K 112 k fr h=leaving 0 k h (resL Tryz.prog fr h [.tmp 3]):=ret_of Tryz.func112 rfl rfl
theorem call_113:CallT 113 Tryz.f113:=fun _ _=>R_call rfl rfl (by decide +kernel) rfl Tryz.func113 rfl
@[go_sem] theorem ret_113 (k:Nat) (fr:Fr) (h:Heap):retOf K 113 k fr h=leaving 0 k h (resL Tryz.prog fr h [.tmp 4]):=ret_of Tryz.func113 rfl rfl
theorem call_114:CallT 114 Tryz.f114:=fun _ _=>R_call rfl rfl (by decide +kernel) rfl Tryz.func114 rfl
@[go_sem] theorem ret_114 (k:Nat) (fr:Fr) (h:Heap):retOf K 114 k fr h=leaving 0 k h (resL Tryz.prog fr h [.tmp 8]):=ret_of Tryz.func114 rfl rfl
theorem call_115:CallT 115 Tryz.f115:=fun _ _=>R_call rfl rfl (by decide +kernel) rfl Tryz.func115 rfl
@[go_sem] theorem ret_115 (k:Nat) (fr:Fr) (h:Heap):retOf K 115 k fr h=leaving 0 k h (resL Tryz.prog fr h [.tmp 2,.tmp 3]):=ret_of Tryz.func115 rfl rfl
theorem call_116:CallT 116 Tryz.f116:=fun _ _=>R_call rfl rfl (by decide +kernel) rfl Tryz.func116 rfl
@[go_sem] theorem ret_116 (k:Nat) (fr:Fr) (h:Heap):retOf K 116 k fr h=leaving 0 k h (resL Tryz.prog fr h [.tmp 4]):=ret_of Tryz.func116 rfl rfl
theorem call_132:CallT 132 Tryz.f132:=fun _ _=>R_call rfl rfl (by decide +kernel) rfl Tryz.func132 rfl
@[go_sem] theorem ret_132 (k:Nat) (fr:Fr) (h:Heap):retOf K 132 k fr h=leaving 0 k h (resL Tryz.prog fr h [.tmp 4]):=ret_of Tryz.func132 rfl rfl
theorem call_134:CallT 134 Tryz.f134:=fun _ _=>R_call rfl rfl (by decide +kernel) rfl Tryz.func134 rfl
@[go_sem] theorem ret_134 (k:Nat) (fr:Fr) (h:Heap):retOf K 134 k fr h=leaving 0 k h (resL Tryz.prog fr h [.tmp 4]):=ret_of Tryz.func134 rfl rfl
theorem call_147:CallT 147 Tryz.f147:=fun _ _=>R_call rfl rfl (by decide +kernel) rfl Tryz.func147 rfl
@[go_sem] theorem ret_147 (k:Nat) (fr:Fr) (h:Heap):retOf K 147 k fr h=leaving 0 k h (resL Tryz.prog fr h [.tmp 6]):=ret_of Tryz.func147 rfl rfl
theorem call_148:CallT 148 Tryz.f148:=fun _ _=>R_call rfl rfl (by decide +kernel) rfl Tryz.func148 rfl
@[go_sem] theorem ret_148 (k:Nat) (fr:Fr) (h:Heap):retOf K 148 k fr h=leaving 0 k h (resL Tryz.prog fr h [.tmp 2]):=ret_of Tryz.func148 rfl rfl
theorem call_149:CallT 149 Tryz.f149:=fun _ _=>R_call rfl rfl (by decide +kernel) rfl Tryz.func149 rfl
@[go_sem] theorem ret_149 (k:Nat) (fr:Fr) (h:Heap):retOf K 149 k fr h=leaving 0 k h (resL Tryz.prog fr h [.tmp 1]):=ret_of Tryz.func149 rfl rfl
theorem call_150:CallT 150 Tryz.f150:=fun _ _=>R_call rfl rfl (by decide +kernel) rfl Tryz.func150 rfl
@[go_sem] theorem ret_150 (k:Nat) (fr:Fr) (h:Heap):retOf K 150 k fr h=leaving 0 k h (resL Tryz.prog fr h [.tmp 2]):=ret_of Tryz.func150 rfl rfl
theorem call_151:CallT 151 Tryz.f151:=fun _ _=>R_call rfl rfl (by decide +kernel) rfl Tryz.func151 rfl
@[go_sem] theorem ret_151 (k:Nat) (fr:Fr) (h:Heap):retOf K 151 k fr h=leaving 0 k h (resL Tryz.prog fr h [.tmp 1]):=ret_of Tryz.func151 rfl rfl
theorem call_152:CallT 152 Tryz.f152:=fun _ _=>R_call rfl rfl (by decide +kernel) rfl Tryz.func152 rfl
@[go_sem] theorem ret_152 (k:Nat) (fr:Fr) (h:Heap):retOf K 152 k fr h=leaving 0 k h (resL Tryz.prog fr h [.tmp 6]):=ret_of Tryz.func152 rfl rfl
theorem call_153:CallT 153 Tryz.f153:=fun _ _=>R_call rfl rfl (by decide +kernel) rfl Tryz.func153 rfl
@[go_sem] theorem ret_153 (k:Nat) (fr:Fr) (h:Heap):retOf K 153 k fr h=leaving 0 k h (resL Tryz.prog fr h [.tmp 2]):=ret_of Tryz.func153 rfl rfl
theorem call_154:CallT 154 Tryz.f154:=fun _ _=>R_call rfl rfl (by decide +kernel) rfl Tryz.func154 rfl
@[go_sem] theorem ret_154 (k:Nat) (fr:Fr) (h:Heap):retOf K 154 k fr h=leaving 0 k h (resL Tryz.prog fr h [.tmp 1]):=ret_of Tryz.func154 rfl rfl
theorem call_155:CallT 155 Tryz.f155:=fun _ _=>R_call rfl rfl (by decide +kernel) rfl Tryz.func155 rfl
@[go_sem] theorem ret_155 (k:Nat) (fr:Fr) (h:Heap):retOf K 155 k fr h=leaving 0 k h (resL Tryz.prog fr h [.tmp 3]):=ret_of Tryz.func155 rfl rfl
theorem call_156:CallT 156 Tryz.f156:=fun _ _=>R_call rfl rfl (by decide +kernel) rfl Tryz.func156 rfl
@[go_sem] theorem ret_156 (k:Nat) (fr:Fr) (h:Heap):retOf K 156 k fr h=leaving 0 k h (resL Tryz.prog fr h [.tmp 2]):=ret_of Tryz.func156 rfl rfl
theorem call_157:CallT 157 Tryz.f157:=fun _ _=>R_call rfl rfl (by decide +kernel) rfl Tryz.func157 rfl
@[go_sem] theorem ret_157 (k:Nat) (fr:Fr) (h:Heap):retOf K 157 k fr h=leaving 0 k h (resL Tryz.prog fr h [.tmp 2]):=ret_of Tryz.func157 rfl rfl
theorem call_158:CallT 158 Tryz.f158:=fun _ _=>R_call rfl rfl (by decide +kernel) rfl Tryz.func158 rfl
@[go_sem] theorem ret_158 (k:Nat) (fr:Fr) (h:Heap):retOf K 158 k fr h=leaving 0 k h (resL Tryz.prog fr h [.tmp 1]):=ret_of Tryz.func158 rfl rfl
theorem call_159:CallT 159 Tryz.f159:=fun _ _=>R_call rfl rfl (by decide +kernel) rfl Tryz.func159 rfl
@[go_sem] theorem ret_159 (k:Nat) (fr:Fr) (h:Heap):retOf K 159 k fr h=leaving 0 k h (resL Tryz.prog fr h [.tmp 3]):=ret_of Tryz.func159 rfl rfl
theorem call_160:CallT 160 Tryz.f160:=fun _ _=>R_call rfl rfl (by decide +kernel) rfl Tryz.func160 rfl
@[go_sem] theorem ret_160 (k:Nat) (fr:Fr) (h:Heap):retOf K 160 k fr h=leaving 0 k h (resL Tryz.prog fr h [.tmp 2]):=ret_of Tryz.func160 rfl rfl
theorem call_161:CallT 161 Tryz.f161:=fun _ _=>R_call rfl rfl (by decide +kernel) rfl Tryz.func161 rfl
@[go_sem] theorem ret_161 (k:Nat) (fr:Fr) (h:Heap):retOf K 161 k fr h=leaving 0 k h (resL Tryz.prog fr h [.tmp 5]):=ret_of Tryz.func161 rfl rfl
theorem call_162:CallT 162 Tryz.f162:=fun _ _=>R_call rfl rfl (by decide +kernel) rfl Tryz.func162 rfl
@[go_sem] theorem ret_162 (k:Nat) (fr:Fr) (h:Heap):retOf K 162 k fr h=leaving 0 k h (resL Tryz.prog fr h [.tmp 4]):=ret_of Tryz.func162 rfl rfl
theorem call_163:CallT 163 Tryz.f163:=fun _ _=>R_call rfl rfl (by decide +kernel) rfl Tryz.func163 rfl
@[go_sem] theorem ret_163 (k:Nat) (fr:Fr) (h:Heap):retOf K 163 k fr h=leaving 0 k h (resL Tryz.prog fr h []):=ret_of Tryz.func163 rfl rfl
theorem call_164:CallT 164 Tryz.f164:=fun _ _=>R_call rfl rfl (by decide +kernel) rfl Tryz.func164 rfl
@[go_sem] theorem ret_164 (k:Nat) (fr:Fr) (h:Heap):retOf K 164 k fr h=leaving 0 k h (resL Tryz.prog fr h []):=ret_of Tryz.func164 rfl rfl
theorem call_165:CallT 165 Tryz.f165:=fun _ _=>R_call rfl rfl (by decide +kernel) rfl Tryz.func165 rfl
@[go_sem] theorem ret_165 (k:Nat) (fr:Fr) (h:Heap):retOf K 165 k fr h=leaving 0 k h (resL Tryz.prog fr h [.cell 6 208,.tmp 7]):=ret_of Tryz.func165 rfl rfl
theorem call_166:CallT 166 Tryz.f166:=fun _ _=>R_call rfl rfl (by decide +kernel) rfl Tryz.func166 rfl
@[go_sem] theorem ret_166 (k:Nat) (fr:Fr) (h:Heap):retOf K 166 k fr h=leaving 0 k h (resL Tryz.prog fr h [.tmp 2]):=ret_of Tryz.func166 rfl rfl
theorem call_167:CallT 167 Tryz.f167:=fun _ _=>R_call rfl rfl (by decide +kernel) rfl Tryz.func167 rfl
@[go_sem] theorem ret_167 (k:Nat) (fr:Fr) (h:Heap):retOf K 167 k fr h=leaving 0 k h (resL Tryz.prog fr h [.tmp 2]):=ret_of Tryz.func167 rfl rfl
theorem call_168:CallT 168 Tryz.f168:=fun _ _=>R_call rfl rfl (by decide +kernel) rfl Tryz.func168 rfl
@[go_sem] theorem ret_168 (k:Nat) (fr:Fr) (h:Heap):retOf K 168 k fr h=leaving 0 k h (resL Tryz.prog fr h [.tmp 2]):=ret_of Tryz.func168 rfl rfl
theorem call_169:CallT 169 Tryz.f169:=fun _ _=>R_call rfl rfl (by decide +kernel) rfl Tryz.func169 rfl
@[go_sem] theorem ret_169 (k:Nat) (fr:Fr) (h:Heap):retOf K 169 k fr h=leaving 0 k h (resL Tryz.prog fr h [.tmp 4]):=ret_of Tryz.func169 rfl rfl
theorem call_170:CallT 170 Tryz.f170:=fun _ _=>R_call rfl rfl (by decide +kernel) rfl Tryz.func170 rfl
@[go_sem] theorem ret_170 (k:Nat) (fr:Fr) (h:Heap):retOf K 170 k fr h=leaving 0 k h (resL Tryz.prog fr h [.tmp 4]):=ret_of Tryz.func170 rfl rfl
theorem call_171:CallT 171 Tryz.f171:=fun _ _=>R_call rfl rfl (by decide +kernel) rfl Tryz.func171 rfl
@[go_sem] theorem ret_171 (k:Nat) (fr:Fr) (h:Heap):retOf K 171 k fr h=leaving 0 k h (resL Tryz.prog fr h [.tmp 2]):=ret_of Tryz.func171 rfl rfl
theorem call_172:CallT 172 Tryz.f172:=fun _ _=>R_call rfl rfl (by decide +kernel) rfl Tryz.func172 rfl
@[go_sem] theorem ret_172 (k:Nat) (fr:Fr) (h:Heap):retOf K 172 k fr h=leaving 0 k h (resL Tryz.prog fr h [.tmp 6]):=ret_of Tryz.func172 rfl rfl
theorem call_173:CallT 173 Tryz.f173:=fun _ _=>R_call rfl rfl (by decide +kernel) rfl Tryz.func173 rfl
@[go_sem] theorem ret_173 (k:Nat) (fr:Fr) (h:Heap):retOf K 173 k fr h=leaving 0 k h (resL Tryz.prog fr h [.tmp 2]):=ret_of Tryz.func173 rfl rfl
theorem call_174:CallT 174 Tryz.f174:=fun _ _=>R_call rfl rfl (by decide +kernel) rfl Tryz.func174 rfl
@[go_sem] theorem ret_174 (k:Nat) (fr:Fr) (h:Heap):retOf K 174 k fr h=leaving 0 k h (resL Tryz.prog fr h [.tmp 4]):=ret_of Tryz.func174 rfl rfl
theorem call_175:CallT 175 Tryz.f175:=fun _ _=>R_call rfl rfl (by decide +kernel) rfl Tryz.func175 rfl
@[go_sem] theorem ret_175 (k:Nat) (fr:Fr) (h:Heap):retOf K 175 k fr h=leaving 0 k h (resL Tryz.prog fr h [.cell 4 187]):=ret_of Tryz.func175 rfl rfl
theorem call_176:CallT 176 Tryz.f176:=fun _ _=>R_call rfl rfl (by decide +kernel) rfl Tryz.func176 rfl
@[go_sem] theorem ret_176 (k:Nat) (fr:Fr) (h:Heap):retOf K 176 k fr h=leaving 0 k h (resL Tryz.prog fr h [.tmp 2]):=ret_of Tryz.func176 rfl rfl
theorem call_177:CallT 177 Tryz.f177:=fun _ _=>R_call rfl rfl (by decide +kernel) rfl Tryz.func177 rfl
@[go_sem] theorem ret_177 (k:Nat) (fr:Fr) (h:Heap):retOf K 177 k fr h=leaving 0 k h (resL Tryz.prog fr h [.tmp 4]):=ret_of Tryz.func177 rfl rfl
theorem call_178:CallT 178 Tryz.f178:=fun _ _=>R_call rfl rfl (by decide +kernel) rfl Tryz.func178 rfl
@[go_sem] theorem ret_178 (k:Nat) (fr:Fr) (h:Heap):retOf K 178 k fr h=leaving 0 k h (resL Tryz.prog fr h [.tmp 10,.tmp 11]):=ret_of Tryz.func178 rfl rfl
theorem call_179:CallT 179 Tryz.f179:=fun _ _=>R_call rfl rfl (by decide +kernel) rfl Tryz.func179 rfl
@[go_sem] theorem ret_179 (k:Nat) (fr:Fr) (h:Heap):retOf K 179 k fr h=leaving 0 k h (resL Tryz.prog fr h [.tmp 4]):=ret_of Tryz.func179 rfl rfl
theorem call_180:CallT 180 Tryz.f180:=fun _ _=>R_call rfl rfl (by decide +kernel) rfl Tryz.func180 rfl
@[go_sem] theorem ret_180 (k:Nat) (fr:Fr) (h:Heap):retOf K 180 k fr h=leaving 0 k h (resL Tryz.prog fr h [.tmp 3]):=ret_of Tryz.func180 rfl rfl
theorem call_181:CallT 181 Tryz.f181:=fun _ _=>R_call rfl rfl (by decide +kernel) rfl Tryz.func181 rfl
@[go_sem] theorem ret_181 (k:Nat) (fr:Fr) (h:Heap):retOf K 181 k fr h=leaving 0 k h (resL Tryz.prog fr h [.tmp 3]):=ret_of Tryz.func181 rfl rfl
theorem call_182:CallT 182 Tryz.f182:=fun _ _=>R_call rfl rfl (by decide +kernel) rfl Tryz.func182 rfl
@[go_sem] theorem ret_182 (k:Nat) (fr:Fr) (h:Heap):retOf K 182 k fr h=leaving 0 k h (resL Tryz.prog fr h [.tmp 4]):=ret_of Tryz.func182 rfl rfl
theorem call_183:CallT 183 Tryz.f183:=fun _ _=>R_call rfl rfl (by decide +kernel) rfl Tryz.func183 rfl
@[go_sem] theorem ret_183 (k:Nat) (fr:Fr) (h:Heap):retOf K 183 k fr h=leaving 0 k h (resL Tryz.prog fr h [.tmp 4]):=ret_of Tryz.func183 rfl rfl
theorem call_184:CallT 184 Tryz.f184:=fun _ _=>R_call rfl rfl (by decide +kernel) rfl Tryz.func184 rfl
@[go_sem] theorem ret_184 (k:Nat) (fr:Fr) (h:Heap):retOf K 184 k fr h=leaving 0 k h (resL Tryz.prog fr h [.tmp 4]):=ret_of Tryz.func184 rfl rfl
theorem call_185:CallT 185 Tryz.f185:=fun _ _=>R_call rfl rfl (by decide +kernel) rfl Tryz.func185 rfl
@[go_sem] theorem ret_185 (k:Nat) (fr:Fr) (h:Heap):retOf K 185 k fr h=leaving 0 k h (resL Tryz.prog fr h [.tmp 4]):=ret_of Tryz.func185 rfl rfl
theorem call_186:CallT 186 Tryz.f186:=fun _ _=>R_call rfl rfl (by decide +kernel) rfl Tryz.func186 rfl
@[go_sem] theorem ret_186 (k:Nat) (fr:Fr) (h:Heap):retOf K 186 k fr h=leaving 0 k h (resL Tryz.prog fr h [.tmp 4]):=ret_of Tryz.func186 rfl rfl
theorem call_187:CallT 187 Tryz.f187:=fun _ _=>R_call rfl rfl (by decide +kernel) rfl Tryz.func187 rfl
@[go_sem] theorem ret_187 (k:Nat) (fr:Fr) (h:Heap):retOf K 187 k fr h=leaving 0 k h (resL Tryz.prog fr h [.tmp 3]):=ret_of Tryz.func187 rfl rfl
theorem call_188:CallT 188 Tryz.f188:=fun _ _=>R_call rfl rfl (by decide +kernel) rfl Tryz.func188 rfl
@[go_sem] theorem ret_188 (k:Nat) (fr:Fr) (h:Heap):retOf K 188 k fr h=leaving 0 k h (resL Tryz.prog fr h []):=ret_of Tryz.func188 rfl rfl
theorem call_189:CallT 189 Tryz.f189:=fun _ _=>R_call rfl rfl (by decide +kernel) rfl Tryz.func189 rfl
@[go_sem] theorem ret_189 (k:Nat) (fr:Fr) (h:Heap):retOf K 189 k fr h=leaving 0 k h (resL Tryz.prog fr h []):=ret_of Tryz.func189 rfl rfl
theorem call_190:CallT 190 Tryz.f190:=fun _ _=>R_call rfl rfl (by decide +kernel) rfl Tryz.func190 rfl
@[go_sem] theorem ret_190 (k:Nat) (fr:Fr) (h:Heap):retOf K 190 k fr h=leaving 3 k h (resL Tryz.prog fr h [.tmp 4]):=ret_of Tryz.func190 rfl rfl
theorem call_191:CallT 191 Tryz.f191:=fun _ _=>R_call rfl rfl (by decide +kernel) rfl Tryz.func191 rfl
@[go_sem] theorem ret_191 (k:Nat) (fr:Fr) (h:Heap):retOf K 191 k fr h=leaving 0 k h (resL Tryz.prog fr h [.tmp 4]):=ret_of Tryz.func191 rfl rfl
theorem call_192:CallT 192 Tryz.f192:=fun _ _=>R_call rfl rfl (by decide +kernel) rfl Tryz.func192 rfl
@[go_sem] theorem ret_192 (k:Nat) (fr:Fr) (h:Heap):retOf K 192 k fr h=leaving 0 k h (resL Tryz.prog fr h [.tmp 2]):=ret_of Tryz.func192 rfl rfl
theorem call_193:CallT 193 Tryz.f193:=fun _ _=>R_call rfl rfl (by decide +kernel) rfl Tryz.func193 rfl
@[go_sem] theorem ret_193 (k:Nat) (fr:Fr) (h:Heap):retOf K 193 k fr h=leaving 0 k h (resL Tryz.prog fr h [.tmp 6]):=ret_of Tryz.func193 rfl rfl
theorem call_194:CallT 194 Tryz.f194:=fun _ _=>R_call rfl rfl (by decide +kernel) rfl Tryz.func194 rfl
@[go_sem] theorem ret_194 (k:Nat) (fr:Fr) (h:Heap):retOf K 194 k fr h=leaving 0 k h (resL Tryz.prog fr h [.tmp 4,.tmp 5]):=ret_of Tryz.func194 rfl rfl
theorem call_195 (args:List AV) (h:Heap):R K (.call 195 args h)=R K (.run 195 (ownedB (entry 0 args) h [(0,1,5)]).length [.code (Tryz.f195.body.getD .skip)] (entry 0 args) (ownedB (entry 0 args) h [(0,1,5)])):=R_callO rfl rfl (by decide +kernel) rfl Tryz.func195 rfl
@[go_sem] theorem ret_195 (k:Nat) (fr:Fr) (h:Heap):retOf K 195 k fr h=leaving 0 k h (resL Tryz.prog fr h []):=ret_of Tryz.func195 rfl rfl
theorem call_196:CallT 196 Tryz.f196:=fun _ _=>R_call rfl rfl (by decide +kernel) rfl Tryz.func196 rfl
@[go_sem] theorem ret_196 (k:Nat) (fr:Fr) (h:Heap):retOf K 196 k fr h=leaving 0 k h (resL Tryz.prog fr h [.tmp 2]):=ret_of Tryz.func196 rfl rfl
theorem call_197:CallT 197 Tryz.f197:=fun _ _=>R_call rfl rfl (by decide +kernel) rfl Tryz.func197 rfl
@[go_sem] theorem ret_197 (k:Nat) (fr:Fr) (h:Heap):retOf K 197 k fr h=leaving 0 k h (resL Tryz.prog fr h [.tmp 2]):=ret_of Tryz.func197 rfl rfl
theorem call_198:CallT 198 Tryz.f198:=fun _ _=>R_call rfl rfl (by decide +kernel) rfl Tryz.func198 rfl
@[go_sem] theorem ret_198 (k:Nat) (fr:Fr) (h:Heap):retOf K 198 k fr h=leaving 0 k h (resL Tryz.prog fr h [.tmp 2]):=ret_of Tryz.func198 rfl rfl
theorem call_199:CallT 199 Tryz.f199:=fun _ _=>R_call rfl rfl (by decide +kernel) rfl Tryz.func199 rfl
@[go_sem] theorem ret_199 (k:Nat) (fr:Fr) (h:Heap):retOf K 199 k fr h=leaving 0 k h (resL Tryz.prog fr h [.tmp 3]):=ret_of Tryz.func199 rfl rfl
theorem call_225:CallT 225 Tryz.f225:=fun _ _=>R_call rfl rfl (by decide +kernel) rfl Tryz.func225 rfl
@[go_sem] theorem ret_225 (k:Nat) (fr:Fr) (h:Heap):retOf K 225 k fr h=leaving 0 k h (resL Tryz.prog fr h [.tmp 3]):=ret_of Tryz.func225 rfl rfl
theorem call_226:CallT 226 Tryz.f226:=fun _ _=>R_call rfl rfl (by decide +kernel) rfl Tryz.func226 rfl
@[go_sem] theorem ret_226 (k:Nat) (fr:Fr) (h:Heap):retOf K 226 k fr h=leaving 0 k h (resL Tryz.prog fr h [.tmp 6]):=ret_of Tryz.func226 rfl rfl
theorem call_227:CallT 227 Tryz.f227:=fun _ _=>R_call rfl rfl (by decide +kernel) rfl Tryz.func227 rfl
@[go_sem] theorem ret_227 (k:Nat) (fr:Fr) (h:Heap):retOf K 227 k fr h=leaving 0 k h (resL Tryz.prog fr h [.tmp 2]):=ret_of Tryz.func227 rfl rfl
theorem call_228:CallT 228 Tryz.f228:=fun _ _=>R_call rfl rfl (by decide +kernel) rfl Tryz.func228 rfl
@[go_sem] theorem ret_228 (k:Nat) (fr:Fr) (h:Heap):retOf K 228 k fr h=leaving 0 k h (resL Tryz.prog fr h [.tmp 2]):=ret_of Tryz.func228 rfl rfl
theorem call_247:CallT 247 Tryz.f247:=fun _ _=>R_call rfl rfl (by decide +kernel) rfl Tryz.func247 rfl
@[go_sem] theorem ret_247 (k:Nat) (fr:Fr) (h:Heap):retOf K 247 k fr h=leaving 0 k h (resL Tryz.prog fr h [.tmp 2]):=ret_of Tryz.func247 rfl rfl
theorem call_248:CallT 248 Tryz.f248:=fun _ _=>R_call rfl rfl (by decide +kernel) rfl Tryz.func248 rfl
@[go_sem] theorem ret_248 (k:Nat) (fr:Fr) (h:Heap):retOf K 248 k fr h=leaving 0 k h (resL Tryz.prog fr h [.tmp 3]):=ret_of Tryz.func248 rfl rfl
theorem call_249:CallT 249 Tryz.f249:=fun _ _=>R_call rfl rfl (by decide +kernel) rfl Tryz.func249 rfl
@[go_sem] theorem ret_249 (k:Nat) (fr:Fr) (h:Heap):retOf K 249 k fr h=leaving 0 k h (resL Tryz.prog fr h [.tmp 6]):=ret_of Tryz.func249 rfl rfl
theorem call_250:CallT 250 Tryz.f250:=fun _ _=>R_call rfl rfl (by decide +kernel) rfl Tryz.func250 rfl
@[go_sem] theorem ret_250 (k:Nat) (fr:Fr) (h:Heap):retOf K 250 k fr h=leaving 0 k h (resL Tryz.prog fr h [.tmp 5]):=ret_of Tryz.func250 rfl rfl
theorem call_251:CallT 251 Tryz.f251:=fun _ _=>R_call rfl rfl (by decide +kernel) rfl Tryz.func251 rfl
@[go_sem] theorem ret_251 (k:Nat) (fr:Fr) (h:Heap):retOf K 251 k fr h=leaving 0 k h (resL Tryz.prog fr h [.tmp 3]):=ret_of Tryz.func251 rfl rfl
theorem call_252:CallT 252 Tryz.f252:=fun _ _=>R_call rfl rfl (by decide +kernel) rfl Tryz.func252 rfl
@[go_sem] theorem ret_252 (k:Nat) (fr:Fr) (h:Heap):retOf K 252 k fr h=leaving 0 k h (resL Tryz.prog fr h [.tmp 4]):=ret_of Tryz.func252 rfl rfl
theorem call_253:CallT 253 Tryz.f253:=fun _ _=>R_call rfl rfl (by decide +kernel) rfl Tryz.func253 rfl
@[go_sem] theorem ret_253 (k:Nat) (fr:Fr) (h:Heap):retOf K 253 k fr h=leaving 0 k h (resL Tryz.prog fr h []):=ret_of Tryz.func253 rfl rfl
theorem call_254:CallT 254 Tryz.f254:=fun _ _=>R_call rfl rfl (by decide +kernel) rfl Tryz.func254 rfl
@[go_sem] theorem ret_254 (k:Nat) (fr:Fr) (h:Heap):retOf K 254 k fr h=leaving 0 k h (resL Tryz.prog fr h []):=ret_of Tryz.func254 rfl rfl
theorem call_255:CallT 255 Tryz.f255:=fun _ _=>R_call rfl rfl (by decide +kernel) rfl Tryz.func255 rfl
@[go_sem] theorem ret_255 (k:Nat) (fr:Fr) (h:Heap):retOf K 255 k fr h=leaving 0 k h (resL Tryz.prog fr h []):=ret_of Tryz.func255 rfl rfl
theorem call_256:CallT 256 Tryz.f256:=fun _ _=>R_call rfl rfl (by decide +kernel) rfl Tryz.func256 rfl
@[go_sem] theorem ret_256 (k:Nat) (fr:Fr) (h:Heap):retOf K 256 k fr h=leaving 0 k h (resL Tryz.prog fr h [.tmp 4]):=ret_of Tryz.func256 rfl rfl
theorem call_257:CallT 257 Tryz.f257:=fun _ _=>R_call rfl rfl (by decide +kernel) rfl Tryz.func257 rfl
@[go_sem] theorem ret_257 (k:Nat) (fr:Fr) (h:Heap):retOf K 257 k fr h=leaving 0 k h (resL Tryz.prog fr h [.tmp 2]):=ret_of Tryz.func257 rfl rfl
theorem call_258:CallT 258 Tryz.f258:=fun _ _=>R_call rfl rfl (by decide +kernel) rfl Tryz.func258 rfl
@[go_sem] theorem ret_258 (k:Nat) (fr:Fr) (h:Heap):retOf K 258 k fr h=leaving 0 k h (resL Tryz.prog fr h [.tmp 4]):=ret_of Tryz.func258 rfl rfl
theorem call_259:CallT 259 Tryz.f259:=fun _ _=>R_call rfl rfl (by decide +kernel) rfl Tryz.func259 rfl
@[go_sem] theorem ret_259 (k:Nat) (fr:Fr) (h:Heap):retOf K 259 k fr h=leaving 0 k h (resL Tryz.prog fr h [.tmp 4]):=ret_of Tryz.func259 rfl rfl
theorem call_260:CallT 260 Tryz.f260:=fun _ _=>R_call rfl rfl (by decide +kernel) rfl Tryz.func260 rfl
@[go_sem] theorem ret_260 (k:Nat) (fr:Fr) (h:Heap):retOf K 260 k fr h=leaving 0 k h (resL Tryz.prog fr h [.tmp 3]):=ret_of Tryz.func260 rfl rfl
theorem call_261:CallT 261 Tryz.f261:=fun _ _=>R_call rfl rfl (by decide +kernel) rfl Tryz.func261 rfl
@[go_sem] theorem ret_261 (k:Nat) (fr:Fr) (h:Heap):retOf K 261 k fr h=leaving 0 k h (resL Tryz.prog fr h [.tmp 4]):=ret_of Tryz.func261 rfl rfl
theorem call_262:CallT 262 Tryz.f262:=fun _ _=>R_call rfl rfl (by decide +kernel) rfl Tryz.func262 rfl
@[go_sem] theorem ret_262 (k:Nat) (fr:Fr) (h:Heap):retOf K 262 k fr h=leaving 0 k h (resL Tryz.prog fr h [.tmp 3]):=ret_of Tryz.func262 rfl rfl
theorem call_263:CallT 263 Tryz.f263:=fun _ _=>R_call rfl rfl (by decide +kernel) rfl Tryz.func263 rfl
@[go_sem] theorem ret_263 (k:Nat) (fr:Fr) (h:Heap):retOf K 263 k fr h=leaving 0 k h (resL Tryz.prog fr h [.tmp 4]):=ret_of Tryz.func263 rfl rfl
theorem call_264:CallT 264 Tryz.f264:=fun _ _=>R_call rfl rfl (by decide +kernel) rfl Tryz.func264 rfl
@[go_sem] theorem ret_264 (k:Nat) (fr:Fr) (h:Heap):retOf K 264 k fr h=leaving 0 k h (resL Tryz.prog fr h [.tmp 4]):=ret_of Tryz.func264 rfl rfl
theorem call_265:CallT 265 Tryz.f265:=fun _ _=>R_call rfl rfl (by decide +kernel) rfl Tryz.func265 rfl
@[go_sem] theorem ret_265 (k:Nat) (fr:Fr) (h:Heap):retOf K 265 k fr h=leaving 0 k h (resL Tryz.prog fr h [.tmp 2]):=ret_of Tryz.func265 rfl rfl
theorem call_266:CallT 266 Tryz.f266:=fun _ _=>R_call rfl rfl (by decide +kernel) rfl Tryz.func266 rfl
@[go_sem] theorem ret_266 (k:Nat) (fr:Fr) (h:Heap):retOf K 266 k fr h=leaving 0 k h (resL Tryz.prog fr h [.tmp 2]):=ret_of Tryz.func266 rfl rfl
theorem call_267:CallT 267 Tryz.f267:=fun _ _=>R_call rfl rfl (by decide +kernel) rfl Tryz.func267 rfl
@[go_sem] theorem ret_267 (k:Nat) (fr:Fr) (h:Heap):retOf K 267 k fr h=leaving 0 k h (resL Tryz.prog fr h [.tmp 2]):=ret_of Tryz.func267 rfl rfl
theorem call_268:CallT 268 Tryz.f268:=fun _ _=>R_call rfl rfl (by decide +kernel) rfl Tryz.func268 rfl
@[go_sem] theorem ret_268 (k:Nat) (fr:Fr) (h:Heap):retOf K 268 k fr h=leaving 0 k h (resL Tryz.prog fr h [.tmp 2]):=ret_of Tryz.func268 rfl rfl
theorem call_269:CallT 269 Tryz.f269:=fun _ _=>R_call rfl rfl (by decide +kernel) rfl Tryz.func269 rfl
@[go_sem] theorem ret_269 (k:Nat) (fr:Fr) (h:Heap):retOf K 269 k fr h=leaving 0 k h (resL Tryz.prog fr h [.tmp 2]):=ret_of Tryz.func269 rfl rfl
theorem call_270:CallT 270 Tryz.f270:=fun _ _=>R_call rfl rfl (by decide +kernel) rfl Tryz.func270 rfl
@[go_sem] theorem ret_270 (k:Nat) (fr:Fr) (h:Heap):retOf K 270 k fr h=leaving 0 k h (resL Tryz.prog fr h [.tmp 2]):=ret_of Tryz.func270 rfl rfl
theorem call_271:CallT 271 Tryz.f271:=fun _ _=>R_call rfl rfl (by decide +kernel) rfl Tryz.func271 rfl
@[go_sem] theorem ret_271 (k:Nat) (fr:Fr) (h:Heap):retOf K 271 k fr h=leaving 0 k h (resL Tryz.prog fr h [.cell 6 199,.tmp 7]):=ret_of Tryz.func271 rfl rfl
theorem call_272:CallT 272 Tryz.f272:=fun _ _=>R_call rfl rfl (by decide +kernel) rfl Tryz.func272 rfl
@[go_sem] theorem ret_272 (k:Nat) (fr:Fr) (h:Heap):retOf K 272 k fr h=leaving 0 k h (resL Tryz.prog fr h [.tmp 4]):=ret_of Tryz.func272 rfl rfl
theorem call_273:CallT 273 Tryz.f273:=fun _ _=>R_call rfl rfl (by decide +kernel) rfl Tryz.func273 rfl
@[go_sem] theorem ret_273 (k:Nat) (fr:Fr) (h:Heap):retOf K 273 k fr h=leaving 0 k h (resL Tryz.prog fr h [.tmp 4,.tmp 5]):=ret_of Tryz.func273 rfl rfl
theorem call_274:CallT 274 Tryz.f274:=fun _ _=>R_call rfl rfl (by decide +kernel) rfl Tryz.func274 rfl
@[go_sem] theorem ret_274 (k:Nat) (fr:Fr) (h:Heap):retOf K 274 k fr h=leaving 0 k h (resL Tryz.prog fr h [.tmp 2,.tmp 3]):=ret_of Tryz.func274 rfl rfl
theorem call_275:CallT 275 Tryz.f275:=fun _ _=>R_call rfl rfl (by decide +kernel) rfl Tryz.func275 rfl
@[go_sem] theorem ret_275 (k:Nat) (fr:Fr) (h:Heap):retOf K 275 k fr h=leaving 0 k h (resL Tryz.prog fr h [.tmp 2,.tmp 3]):=ret_of Tryz.func275 rfl rfl
theorem call_276:CallT 276 Tryz.f276:=fun _ _=>R_call rfl rfl (by decide +kernel) rfl Tryz.func276 rfl
@[go_sem] theorem ret_276 (k:Nat) (fr:Fr) (h:Heap):retOf K 276 k fr h=leaving 0 k h (resL Tryz.prog fr h [.tmp 4,.tmp 5]):=ret_of Tryz.func276 rfl rfl
theorem call_277:CallT 277 Tryz.f277:=fun _ _=>R_call rfl rfl (by decide +kernel) rfl Tryz.func277 rfl
@[go_sem] theorem ret_277 (k:Nat) (fr:Fr) (h:Heap):retOf K 277 k fr h=leaving 0 k h (resL Tryz.prog fr h [.tmp 6]):=ret_of Tryz.func277 rfl rfl
theorem call_278:CallT 278 Tryz.f278:=fun _ _=>R_call rfl rfl (by decide +kernel) rfl Tryz.func278 rfl
@[go_sem] theorem ret_278 (k:Nat) (fr:Fr) (h:Heap):retOf K 278 k fr h=leaving 0 k h (resL Tryz.prog fr h [.tmp 6]):=ret_of Tryz.func278 rfl rfl
theorem call_279:CallT 279 Tryz.f279:=fun _ _=>R_call rfl rfl (by decide +kernel) rfl Tryz.func279 rfl
@[go_sem] theorem ret_279 (k:Nat) (fr:Fr) (h:Heap):retOf K 279 k fr h=leaving 0 k h (resL Tryz.prog fr h [.tmp 4]):=ret_of Tryz.func279 rfl rfl
theorem call_280:CallT 280 Tryz.f280:=fun _ _=>R_call rfl rfl (by decide +kernel) rfl Tryz.func280 rfl
@[go_sem] theorem ret_280 (k:Nat) (fr:Fr) (h:Heap):retOf K 280 k fr h=leaving 0 k h (resL Tryz.prog fr h [.tmp 6]):=ret_of Tryz.func280 rfl rfl
theorem call_281:CallT 281 Tryz.f281:=fun _ _=>R_call rfl rfl (by decide +kernel) rfl Tryz.func281 rfl
@[go_sem] theorem ret_281 (k:Nat) (fr:Fr) (h:Heap):retOf K 281 k fr h=leaving 0 k h (resL Tryz.prog fr h [.tmp 4]):=ret_of Tryz.func281 rfl rfl
theorem call_282:CallT 282 Tryz.f282:=fun _ _=>R_call rfl rfl (by decide +kernel) rfl Tryz.func282 rfl
@[go_sem] theorem ret_282 (k:Nat) (fr:Fr) (h:Heap):retOf K 282 k fr h=leaving 0 k h (resL Tryz.prog fr h [.tmp 3]):=ret_of Tryz.func282 rfl rfl
theorem call_283:CallT 283 Tryz.f283:=fun _ _=>R_call rfl rfl (by decide +kernel) rfl Tryz.func283 rfl
@[go_sem] theorem ret_283 (k:Nat) (fr:Fr) (h:Heap):retOf K 283 k fr h=leaving 0 k h (resL Tryz.prog fr h [.tmp 4]):=ret_of Tryz.func283 rfl rfl
theorem call_284:CallT 284 Tryz.f284:=fun _ _=>R_call rfl rfl (by decide +kernel) rfl Tryz.func284 rfl
@[go_sem] theorem ret_284 (k:Nat) (fr:Fr) (h:Heap):retOf K 284 k fr h=leaving 0 k h (resL Tryz.prog fr h [.tmp 4]):=ret_of Tryz.func284 rfl rfl
theorem call_285:CallT 285 Tryz.f285:=fun _ _=>R_call rfl rfl (by decide +kernel) rfl Tryz.func285 rfl
@[go_sem] theorem ret_285 (k:Nat) (fr:Fr) (h:Heap):retOf K 285 k fr h=leaving 0 k h (resL Tryz.prog fr h [.tmp 4]):=ret_of Tryz.func285 rfl rfl
theorem call_286:CallT 286 Tryz.f286:=fun _ _=>R_call rfl rfl (by decide +kernel) rfl Tryz.func286 rfl
@[go_sem] theorem ret_286 (k:Nat) (fr:Fr) (h:Heap):retOf K 286 k fr h=leaving 0 k h (resL Tryz.prog fr h [.tmp 3]):=ret_of Tryz.func286 rfl rfl
theorem call_287:CallT 287 Tryz.f287:=fun _ _=>R_call rfl rfl (by decide +kernel) rfl Tryz.func287 rfl
@[go_sem] theorem ret_287 (k:Nat) (fr:Fr) (h:Heap):retOf K 287 k fr h=leaving 0 k h (resL Tryz.prog fr h [.tmp 3]):=ret_of Tryz.func287 rfl rfl
theorem call_288:CallT 288 Tryz.f288:=fun _ _=>R_call rfl rfl (by decide +kernel) rfl Tryz.func288 rfl
@[go_sem] theorem ret_288 (k:Nat) (fr:Fr) (h:Heap):retOf K 288 k fr h=leaving 0 k h (resL Tryz.prog fr h [.tmp 3]):=ret_of Tryz.func288 rfl rfl
theorem call_289:CallT 289 Tryz.f289:=fun _ _=>R_call rfl rfl (by decide +kernel) rfl Tryz.func289 rfl
@[go_sem] theorem ret_289 (k:Nat) (fr:Fr) (h:Heap):retOf K 289 k fr h=leaving 0 k h (resL Tryz.prog fr h [.tmp 4,.tmp 5,.tmp 6]):=ret_of Tryz.func289 rfl rfl
theorem call_290:CallT 290 Tryz.f290:=fun _ _=>R_call rfl rfl (by decide +kernel) rfl Tryz.func290 rfl
@[go_sem] theorem ret_290 (k:Nat) (fr:Fr) (h:Heap):retOf K 290 k fr h=leaving 0 k h (resL Tryz.prog fr h [.tmp 2,.tmp 3]):=ret_of Tryz.func290 rfl rfl
theorem call_291:CallT 291 Tryz.f291:=fun _ _=>R_call rfl rfl (by decide +kernel) rfl Tryz.func291 rfl
@[go_sem] theorem ret_291 (k:Nat) (fr:Fr) (h:Heap):retOf K 291 k fr h=leaving 0 k h (resL Tryz.prog fr h [.tmp 6,.tmp 7]):=ret_of Tryz.func291 rfl rfl
theorem call_292:CallT 292 Tryz.f292:=fun _ _=>R_call rfl rfl (by decide +kernel) rfl Tryz.func292 rfl
@[go_sem] theorem ret_292 (k:Nat) (fr:Fr) (h:Heap):retOf K 292 k fr h=leaving 0 k h (resL Tryz.prog fr h [.tmp 4,.tmp 5]):=ret_of Tryz.func292 rfl rfl
theorem call_295 {args:List AV} {h:Heap} (hp:K.prim 295 args=none):R K (.call 295 args h)=R K (.run 295 h.length [.code (Tryz.f295.body.getD .skip)] (entry 0 args) h):=R_call hp rfl (by decide +kernel) rfl Tryz.func295 rfl
@[go_sem] theorem ret_295 (k:Nat) (fr:Fr) (h:Heap):retOf K 295 k fr h=leaving 0 k h (resL Tryz.prog fr h [.tmp 2]):=ret_of Tryz.func295 rfl rfl
theorem call_296 (args:List AV) (h:Heap):R K (.call 296 args h)=R K (.run 296 (ownedB (entry 0 args) h [(0,1,5)]).length [.code (Tryz.f296.body.getD .skip)] (entry 0 args) (ownedB (entry 0 args) h [(0,1,5)])):=R_callO rfl rfl (by decide +kernel) rfl Tryz.func296 rfl
@[go_sem] theorem ret_296 (k:Nat) (fr:Fr) (h:Heap):retOf K 296 k fr h=leaving 0 k h (resL Tryz.prog fr h []):=ret_of Tryz.func296 rfl rfl
theorem call_297 (args:List AV) (h:Heap):R K (.call 297 args h)=R K (.run 297 (ownedB (entry 0 args) h [(0,1,5)]).length [.code (Tryz.f297.body.getD .skip)] (entry 0 args) (ownedB (entry 0 args) h [(0,1,5)])):=R_callO rfl rfl (by decide +kernel) rfl Tryz.func297 rfl
@[go_sem] theorem ret_297 (k:Nat) (fr:Fr) (h:Heap):retOf K 297 k fr h=leaving 0 k h (resL Tryz.prog fr h []):=ret_of Tryz.func297 rfl rfl
theorem call_298:CallT 298 Tryz.f298:=fun _ _=>R_call rfl rfl (by decide +kernel) rfl Tryz.func298 rfl
@[go_sem] theorem ret_298 (k:Nat) (fr:Fr) (h:Heap):retOf K 298 k fr h=leaving 0 k h (resL Tryz.prog fr h []):=ret_of Tryz.func298 rfl rfl
theorem call_299:CallT 299 Tryz.f299:=fun _ _=>R_call rfl rfl (by decide +kernel) rfl Tryz.func299 rfl
@[go_sem] theorem ret_299 (k:Nat) (fr:Fr) (h:Heap):retOf K 299 k fr h=leaving 0 k h (resL Tryz.prog fr h [.tmp 2]):=ret_of Tryz.func299 rfl rfl
theorem call_351:CallT 351 Tryz.f351:=fun _ _=>R_call rfl rfl (by decide +kernel) rfl Tryz.func351 rfl
@[go_sem] theorem ret_351 (k:Nat) (fr:Fr) (h:Heap):retOf K 351 k fr h=leaving 0 k h (resL Tryz.prog fr h [.tmp 4]):=ret_of Tryz.func351 rfl rfl
theorem call_352:CallT 352 Tryz.f352:=fun _ _=>R_call rfl rfl (by decide +kernel) rfl Tryz.func352 rfl
@[go_sem] theorem ret_352 (k:Nat) (fr:Fr) (h:Heap):retOf K 352 k fr h=leaving 0 k h (resL Tryz.prog fr h [.tmp 2]):=ret_of Tryz.func352 rfl rfl
theorem call_353:CallT 353 Tryz.f353:=fun _ _=>R_call rfl rfl (by decide +kernel) rfl Tryz.func353 rfl
@[go_sem] theorem ret_353 (k:Nat) (fr:Fr) (h:Heap):retOf K 353 k fr h=leaving 0 k h (resL Tryz.prog fr h [.tmp 4]):=ret_of Tryz.func353 rfl rfl
theorem call_354:CallT 354 Tryz.f354:=fun _ _=>R_call rfl rfl (by decide +kernel) rfl Tryz.func354 rfl
@[go_sem] theorem ret_354 (k:Nat) (fr:Fr) (h:Heap):retOf K 354 k fr h=leaving 0 k h (resL Tryz.prog fr h [.tmp 3]):=ret_of Tryz.func354 rfl rfl
theorem call_355:CallT 355 Tryz.f355:=fun _ _=>R_call rfl rfl (by decide +kernel) rfl Tryz.func355 rfl
@[go_sem] theorem ret_355 (k:Nat) (fr:Fr) (h:Heap):retOf K 355 k fr h=leaving 0 k h (resL Tryz.prog fr h [.tmp 4]):=ret_of Tryz.func355 rfl rfl
theorem call_356:CallT 356 Tryz.f356:=fun _ _=>R_call rfl rfl (by decide +kernel) rfl Tryz.func356 rfl
@[go_sem] theorem ret_356 (k:Nat) (fr:Fr) (h:Heap):retOf K 356 k fr h=leaving 0 k h (resL Tryz.prog fr h [.tmp 3]):=ret_of Tryz.func356 rfl rfl
theorem call_357:CallT 357 Tryz.f357:=fun _ _=>R_call rfl rfl (by decide +kernel) rfl Tryz.func357 rfl
@[go_sem] theorem ret_357 (k:Nat) (fr:Fr) (h:Heap):retOf K 357 k fr h=leaving 0 k h (resL Tryz.prog fr h [.tmp 3]):=ret_of Tryz.func357 rfl rfl
theorem call_358:CallT 358 Tryz.f358:=fun _ _=>R_call rfl rfl (by decide +kernel) rfl Tryz.func358 rfl
@[go_sem] theorem ret_358 (k:Nat) (fr:Fr) (h:Heap):retOf K 358 k fr h=leaving 0 k h (resL Tryz.prog fr h [.tmp 4]):=ret_of Tryz.func358 rfl rfl
theorem call_359:CallT 359 Tryz.f359:=fun _ _=>R_call rfl rfl (by decide +kernel) rfl Tryz.func359 rfl
@[go_sem] theorem ret_359 (k:Nat) (fr:Fr) (h:Heap):retOf K 359 k fr h=leaving 0 k h (resL Tryz.prog fr h [.tmp 3]):=ret_of Tryz.func359 rfl rfl
theorem call_360:CallT 360 Tryz.f360:=fun _ _=>R_call rfl rfl (by decide +kernel) rfl Tryz.func360 rfl
@[go_sem] theorem ret_360 (k:Nat) (fr:Fr) (h:Heap):retOf K 360 k fr h=leaving 0 k h (resL Tryz.prog fr h [.tmp 4]):=ret_of Tryz.func360 rfl rfl
theorem call_361:CallT 361 Tryz.f361:=fun _ _=>R_call rfl rfl (by decide +kernel) rfl Tryz.func361 rfl
@[go_sem] theorem ret_361 (k:Nat) (fr:Fr) (h:Heap):retOf K 361 k fr h=leaving 0 k h (resL Tryz.prog fr h [.tmp 3]):=ret_of Tryz.func361 rfl rfl
theorem call_362:CallT 362 Tryz.f362:=fun _ _=>R_call rfl rfl (by decide +kernel) rfl Tryz.func362 rfl
@[go_sem] theorem ret_362 (k:Nat) (fr:Fr) (h:Heap):retOf K 362 k fr h=leaving 0 k h (resL Tryz.prog fr h [.tmp 2]):=ret_of Tryz.func362 rfl rfl
theorem call_363:CallT 363 Tryz.f363:=fun _ _=>R_call rfl rfl (by decide +kernel) rfl Tryz.func363 rfl
@[go_sem] theorem ret_363 (k:Nat) (fr:Fr) (h:Heap):retOf K 363 k fr h=leaving 0 k h (resL Tryz.prog fr h [.tmp 2]):=ret_of Tryz.func363 rfl rfl
theorem call_364:CallT 364 Tryz.f364:=fun _ _=>R_call rfl rfl (by decide +kernel) rfl Tryz.func364 rfl
@[go_sem] theorem ret_364 (k:Nat) (fr:Fr) (h:Heap):retOf K 364 k fr h=leaving 0 k h (resL Tryz.prog fr h [.tmp 2]):=ret_of Tryz.func364 rfl rfl
theorem call_365:CallT 365 Tryz.f365:=fun _ _=>R_call rfl rfl (by decide +kernel) rfl Tryz.func365 rfl
@[go_sem] theorem ret_365 (k:Nat) (fr:Fr) (h:Heap):retOf K 365 k fr h=leaving 0 k h (resL Tryz.prog fr h [.tmp 4]):=ret_of Tryz.func365 rfl rfl
theorem call_366:CallT 366 Tryz.f366:=fun _ _=>R_call rfl rfl (by decide +kernel) rfl Tryz.func366 rfl
@[go_sem] theorem ret_366 (k:Nat) (fr:Fr) (h:Heap):retOf K 366 k fr h=leaving 0 k h (resL Tryz.prog fr h [.tmp 4,.tmp 5]):=ret_of Tryz.func366 rfl rfl
theorem call_367:CallT 367 Tryz.f367:=fun _ _=>R_call rfl rfl (by decide +kernel) rfl Tryz.func367 rfl
@[go_sem] theorem ret_367 (k:Nat) (fr:Fr) (h:Heap):retOf K 367 k fr h=leaving 0 k h (resL Tryz.prog fr h [.tmp 2,.tmp 3]):=ret_of Tryz.func367 rfl rfl
theorem call_368:CallT 368 Tryz.f368:=fun _ _=>R_call rfl rfl (by decide +kernel) rfl Tryz.func368 rfl
@[go_sem] theorem ret_368 (k:Nat) (fr:Fr) (h:Heap):retOf K 368 k fr h=leaving 0 k h (resL Tryz.prog fr h [.tmp 2,.tmp 3]):=ret_of Tryz.func368 rfl rfl
theorem call_369:CallT 369 Tryz.f369:=fun _ _=>R_call rfl rfl (by decide +kernel) rfl Tryz.func369 rfl
@[go_sem] theorem ret_369 (k:Nat) (fr:Fr) (h:Heap):retOf K 369 k fr h=leaving 0 k h (resL Tryz.prog fr h [.tmp 6]):=ret_of Tryz.func369 rfl rfl
theorem call_370:CallT 370 Tryz.f370:=fun _ _=>R_call rfl rfl (by decide +kernel) rfl Tryz.func370 rfl
@[go_sem] theorem ret_370 (k:Nat) (fr:Fr) (h:Heap):retOf K 370 k fr h=leaving 0 k h (resL Tryz.prog fr h [.tmp 6]):=ret_of Tryz.func370 rfl rfl
theorem call_371:CallT 371 Tryz.f371:=fun _ _=>R_call rfl rfl (by decide +kernel) rfl Tryz.func371 rfl
@[go_sem] theorem ret_371 (k:Nat) (fr:Fr) (h:Heap):retOf K 371 k fr h=leaving 0 k h (resL Tryz.prog fr h [.tmp 6]):=ret_of Tryz.func371 rfl rfl
theorem call_372:CallT 372 Tryz.f372:=fun _ _=>R_call rfl rfl (by decide +kernel) rfl Tryz.func372 rfl
@[go_sem] theorem ret_372 (k:Nat) (fr:Fr) (h:Heap):retOf K 372 k fr h=leaving 0 k h (resL Tryz.prog fr h [.tmp 4]):=ret_of Tryz.func372 rfl rfl
theorem call_373:CallT 373 Tryz.f373:=fun _ _=>R_call rfl rfl (by decide +kernel) rfl Tryz.func373 rfl
@[go_sem] theorem ret_373 (k:Nat) (fr:Fr) (h:Heap):retOf K 373 k fr h=leaving 0 k h (resL Tryz.prog fr h [.tmp 6]):=ret_of Tryz.func373 rfl rfl
theorem call_374:CallT 374 Tryz.f374:=fun _ _=>R_call rfl rfl (by decide +kernel) rfl Tryz.func374 rfl
@[go_sem] theorem ret_374 (k:Nat) (fr:Fr) (h:Heap):retOf K 374 k fr h=leaving 0 k h (resL Tryz.prog fr h [.tmp 4]):=ret_of Tryz.func374 rfl rfl
theorem call_375:CallT 375 Tryz.f375:=fun _ _=>R_call rfl rfl (by decide +kernel) rfl Tryz.func375 rfl
@[go_sem] theorem ret_375 (k:Nat) (fr:Fr) (h:Heap):retOf K 375 k fr h=leaving 0 k h (resL Tryz.prog fr h [.tmp 6]):=ret_of Tryz.func375 rfl rfl
theorem call_376:CallT 376 Tryz.f376:=fun _ _=>R_call rfl rfl (by decide +kernel) rfl Tryz.func376 rfl
@[go_sem] theorem ret_376 (k:Nat) (fr:Fr) (h:Heap):retOf K 376 k fr h=leaving 0 k h (resL Tryz.prog fr h [.tmp 4]):=ret_of Tryz.func376 rfl rfl
theorem call_377:CallT 377 Tryz.f377:=fun _ _=>R_call rfl rfl (by decide +kernel) rfl Tryz.func377 rfl
@[go_sem] theorem ret_377 (k:Nat) (fr:Fr) (h:Heap):retOf K 377 k fr h=leaving 0 k h (resL Tryz.prog fr h [.tmp 6]):=ret_of Tryz.func377 rfl rfl
theorem call_378:CallT 378 Tryz.f378:=fun _ _=>R_call rfl rfl (by decide +kernel) rfl Tryz.func378 rfl
@[go_sem] theorem ret_378 (k:Nat) (fr:Fr) (h:Heap):retOf K 378 k fr h=leaving 0 k h (resL Tryz.prog fr h [.tmp 2]):=ret_of Tryz.func378 rfl rfl
theorem call_379:CallT 379 Tryz.f379:=fun _ _=>R_call rfl rfl (by decide +kernel) rfl Tryz.func379 rfl
@[go_sem] theorem ret_379 (k:Nat) (fr:Fr) (h:Heap):retOf K 379 k fr h=leaving 0 k h (resL Tryz.prog fr h []):=ret_of Tryz.func379 rfl rfl
theorem call_380:CallT 380 Tryz.f380:=fun _ _=>R_call rfl rfl (by decide +kernel) rfl Tryz.func380 rfl
@[go_sem] theorem ret_380 (k:Nat) (fr:Fr) (h:Heap):retOf K 380 k fr h=leaving 0 k h (resL Tryz.prog fr h []):=ret_of Tryz.func380 rfl rfl
theorem call_381:CallT 381 Tryz.f381:=fun _ _=>R_call rfl rfl (by decide +kernel) rfl Tryz.func381 rfl
@[go_sem] theorem ret_381 (k:Nat) (fr:Fr) (h:Heap):retOf K 381 k fr h=leaving 0 k h (resL Tryz.prog fr h [.tmp 4]):=ret_of Tryz.func381 rfl rfl
theorem call_382:CallT 382 Tryz.f382:=fun _ _=>R_call rfl rfl (by decide +kernel) rfl Tryz.func382 rfl
@[go_sem] theorem ret_382 (k:Nat) (fr:Fr) (h:Heap):retOf K 382 k fr h=leaving 0 k h (resL Tryz.prog fr h [.tmp 2]):=ret_of Tryz.func382 rfl rfl
theorem call_383:CallT 383 Tryz.f383:=fun _ _=>R_call rfl rfl (by decide +kernel) rfl Tryz.func383 rfl
@[go_sem] theorem ret_383 (k:Nat) (fr:Fr) (h:Heap):retOf K 383 k fr h=leaving 0 k h (resL Tryz.prog fr h [.tmp 8,.tmp 9]):=ret_of Tryz.func383 rfl rfl
theorem call_384:CallT 384 Tryz.f384:=fun _ _=>R_call rfl rfl (by decide +kernel) rfl Tryz.func384 rfl
@[go_sem] theorem ret_384 (k:Nat) (fr:Fr) (h:Heap):retOf K 384 k fr h=leaving 0 k h (resL Tryz.prog fr h [.tmp 4,.tmp 5]):=ret_of Tryz.func384 rfl rfl
theorem call_385:CallT 385 Tryz.f385:=fun _ _=>R_call rfl rfl (by decide +kernel) rfl Tryz.func385 rfl
@[go_sem] theorem ret_385 (k:Nat) (fr:Fr) (h:Heap):retOf K 385 k fr h=leaving 0 k h (resL Tryz.prog fr h [.tmp 4,.tmp 5]):=ret_of Tryz.func385 rfl rfl
theorem call_388:CallT 388 Tryz.f388:=fun _ _=>R_call rfl rfl (by decide +kernel) rfl Tryz.func388 rfl
@[go_sem] theorem ret_388 (k:Nat) (fr:Fr) (h:Heap):retOf K 388 k fr h=leaving 0 k h (resL Tryz.prog fr h [.tmp 8]):=ret_of Tryz.func388 rfl rfl
theorem call_389 (args:List AV) (h:Heap):R K (.call 389 args h)=R K (.run 389 (ownedB (entry 0 args) h [(0,1,5)]).length [.code (Tryz.f389.body.getD .skip)] (entry 0 args) (ownedB (entry 0 args) h [(0,1,5)])):=R_callO rfl rfl (by decide +kernel) rfl Tryz.func389 rfl
@[go_sem] theorem ret_389 (k:Nat) (fr:Fr) (h:Heap):retOf K 389 k fr h=leaving 0 k h (resL Tryz.prog fr h []):=ret_of Tryz.func389 rfl rfl
theorem call_428:CallT 428 Tryz.f428:=fun _ _=>R_call rfl rfl (by decide +kernel) rfl Tryz.func428 rfl
@[go_sem] theorem ret_428 (k:Nat) (fr:Fr) (h:Heap):retOf K 428 k fr h=leaving 0 k h (resL Tryz.prog fr h [.tmp 4]):=ret_of Tryz.func428 rfl rfl
theorem call_434:CallT 434 Tryz.f434:=fun _ _=>R_call rfl rfl (by decide +kernel) rfl Tryz.func434 rfl
@[go_sem] theorem ret_434 (k:Nat) (fr:Fr) (h:Heap):retOf K 434 k fr h=leaving 0 k h (resL Tryz.prog fr h [.tmp 4]):=ret_of Tryz.func434 rfl rfl
theorem call_435:CallT 435 Tryz.f435:=fun _ _=>R_call rfl rfl (by decide +kernel) rfl Tryz.func435 rfl
@[go_sem] theorem ret_435 (k:Nat) (fr:Fr) (h:Heap):retOf K 435 k fr h=leaving 0 k h (resL Tryz.prog fr h [.tmp 4]):=ret_of Tryz.func435 rfl rfl
theorem call_437:CallT 437 Tryz.f437:=fun _ _=>R_call rfl rfl (by decide +kernel) rfl Tryz.func437 rfl
@[go_sem] theorem ret_437 (k:Nat) (fr:Fr) (h:Heap):retOf K 437 k fr h=leaving 0 k h (resL Tryz.prog fr h [.tmp 2]):=ret_of Tryz.func437 rfl rfl
theorem call_438:CallT 438 Tryz.f438:=fun _ _=>R_call rfl rfl (by decide +kernel) rfl Tryz.func438 rfl
@[go_sem] theorem ret_438 (k:Nat) (fr:Fr) (h:Heap):retOf K 438 k fr h=leaving 0 k h (resL Tryz.prog fr h [.tmp 4]):=ret_of Tryz.func438 rfl rfl
theorem call_439:CallT 439 Tryz.f439:=fun _ _=>R_call rfl rfl (by decide +kernel) rfl Tryz.func439 rfl
@[go_sem] theorem ret_439 (k:Nat) (fr:Fr) (h:Heap):retOf K 439 k fr h=leaving 0 k h (resL Tryz.prog fr h [.tmp 4,.tmp 5]):=ret_of Tryz.func439 rfl rfl
theorem call_440:CallT 440 Tryz.f440:=fun _ _=>R_call rfl rfl (by decide +kernel) rfl Tryz.func440 rfl
@[go_sem] theorem ret_440 (k:Nat) (fr:Fr) (h:Heap):retOf K 440 k fr h=leaving 0 k h (resL Tryz.prog fr h [.tmp 6]):=ret_of Tryz.func440 rfl rfl
theorem call_441:CallT 441 Tryz.f441:=fun _ _=>R_call rfl rfl (by decide +kernel) rfl Tryz.func441 rfl
@[go_sem] theorem ret_441 (k:Nat) (fr:Fr) (h:Heap):retOf K 441 k fr h=leaving 0 k h (resL Tryz.prog fr h [.tmp 6]):=ret_of Tryz.func441 rfl rfl
theorem call_442:CallT 442 Tryz.f442:=fun _ _=>R_call rfl rfl (by decide +kernel) rfl Tryz.func442 rfl
@[go_sem] theorem ret_442 (k:Nat) (fr:Fr) (h:Heap):retOf K 442 k fr h=leaving 0 k h (resL Tryz.prog fr h [.tmp 6]):=ret_of Tryz.func442 rfl rfl
theorem call_443:CallT 443 Tryz.f443:=fun _ _=>R_call rfl rfl (by decide +kernel) rfl Tryz.func443 rfl
@[go_sem] theorem ret_443 (k:Nat) (fr:Fr) (h:Heap):retOf K 443 k fr h=leaving 0 k h (resL Tryz.prog fr h [.tmp 3]):=ret_of Tryz.func443 rfl rfl
theorem call_445:CallT 445 Tryz.f445:=fun _ _=>R_call rfl rfl (by decide +kernel) rfl Tryz.func445 rfl
@[go_sem] theorem ret_445 (k:Nat) (fr:Fr) (h:Heap):retOf K 445 k fr h=leaving 0 k h (resL Tryz.prog fr h [.tmp 2,.tmp 3]):=ret_of Tryz.func445 rfl rfl
theorem call_446:CallT 446 Tryz.f446:=fun _ _=>R_call rfl rfl (by decide +kernel) rfl Tryz.func446 rfl
@[go_sem] theorem ret_446 (k:Nat) (fr:Fr) (h:Heap):retOf K 446 k fr h=leaving 0 k h (resL Tryz.prog fr h [.tmp 2]):=ret_of Tryz.func446 rfl rfl
theorem call_447:CallT 447 Tryz.f447:=fun _ _=>R_call rfl rfl (by decide +kernel) rfl Tryz.func447 rfl
@[go_sem] theorem ret_447 (k:Nat) (fr:Fr) (h:Heap):retOf K 447 k fr h=leaving 0 k h (resL Tryz.prog fr h [.tmp 2]):=ret_of Tryz.func447 rfl rfl
theorem call_448:CallT 448 Tryz.f448:=fun _ _=>R_call rfl rfl (by decide +kernel) rfl Tryz.func448 rfl
@[go_sem] theorem ret_448 (k:Nat) (fr:Fr) (h:Heap):retOf K 448 k fr h=leaving 0 k h (resL Tryz.prog fr h [.tmp 6]):=ret_of Tryz.func448 rfl rfl
theorem call_449:CallT 449 Tryz.f449:=fun _ _=>R_call rfl rfl (by decide +kernel) rfl Tryz.func449 rfl
@[go_sem] theorem ret_449 (k:Nat) (fr:Fr) (h:Heap):retOf K 449 k fr h=leaving 0 k h (resL Tryz.prog fr h [.tmp 2]):=ret_of Tryz.func449 rfl rfl
theorem call_450:CallT 450 Tryz.f450:=fun _ _=>R_call rfl rfl (by decide +kernel) rfl Tryz.func450 rfl
@[go_sem] theorem ret_450 (k:Nat) (fr:Fr) (h:Heap):retOf K 450 k fr h=leaving 0 k h (resL Tryz.prog fr h [.tmp 5,.tmp 6]):=ret_of Tryz.func450 rfl rfl
theorem call_451:CallT 451 Tryz.f451:=fun _ _=>R_call rfl rfl (by decide +kernel) rfl Tryz.func451 rfl
@[go_sem] theorem ret_451 (k:Nat) (fr:Fr) (h:Heap):retOf K 451 k fr h=leaving 0 k h (resL Tryz.prog fr h [.tmp 6,.tmp 7]):=ret_of Tryz.func451 rfl rfl
theorem call_452:CallT 452 Tryz.f452:=fun _ _=>R_call rfl rfl (by decide +kernel) rfl Tryz.func452 rfl
@[go_sem] theorem ret_452 (k:Nat) (fr:Fr) (h:Heap):retOf K 452 k fr h=leaving 0 k h (resL Tryz.prog fr h [.tmp 4]):=ret_of Tryz.func452 rfl rfl
theorem call_454:CallT 454 Tryz.f454:=fun _ _=>R_call rfl rfl (by decide +kernel) rfl Tryz.func454 rfl
@[go_sem] theorem ret_454 (k:Nat) (fr:Fr) (h:Heap):retOf K 454 k fr h=leaving 3 k h (resL Tryz.prog fr h [.tmp 10]):=ret_of Tryz.func454 rfl rfl
theorem call_487:CallT 487 Tryz.f487:=fun _ _=>R_call rfl rfl (by decide +kernel) rfl Tryz.func487 rfl
@[go_sem] theorem ret_487 (k:Nat) (fr:Fr) (h:Heap):retOf K 487 k fr h=leaving 0 k h (resL Tryz.prog fr h [.tmp 2]):=ret_of Tryz.func487 rfl rfl
theorem call_489:CallT 489 Tryz.f489:=fun _ _=>R_call rfl rfl (by decide +kernel) rfl Tryz.func489 rfl
@[go_sem] theorem ret_489 (k:Nat) (fr:Fr) (h:Heap):retOf K 489 k fr h=leaving 0 k h (resL Tryz.prog fr h [.tmp 4]):=ret_of Tryz.func489 rfl rfl
theorem call_490:CallT 490 Tryz.f490:=fun _ _=>R_call rfl rfl (by decide +kernel) rfl Tryz.func490 rfl
@[go_sem] theorem ret_490 (k:Nat) (fr:Fr) (h:Heap):retOf K 490 k fr h=leaving 0 k h (resL Tryz.prog fr h [.tmp 4]):=ret_of Tryz.func490 rfl rfl
theorem call_491:CallT 491 Tryz.f491:=fun _ _=>R_call rfl rfl (by decide +kernel) rfl Tryz.func491 rfl
@[go_sem] theorem ret_491 (k:Nat) (fr:Fr) (h:Heap):retOf K 491 k fr h=leaving 0 k h (resL Tryz.prog fr h [.tmp 2]):=ret_of Tryz.func491 rfl rfl
end Go.Ab
namespace Go.Ab
open Go Go.Proofs
attribute [go_sem] R_pst popR_nil popR_cell popR_row popR_new popR_tidy popR_whenF popR_whenN popR_whenT popR_opt popR_keep popP_mk R_seq R_cond R_exit R_ret R_end R_blk R_skip onUnw_some outOf_none onCond_true onCond_false get_eq get_ne put_some put_none ev_tmp ev_const ev_func
attribute [go_sem] stepO stepD stepQ stepA fillM fillS isQ quietOp alo fill numA plOf Go.Ab.alloc cellsOf single singles vunit val aLoad part pieces purify purifyL purifyK purifyKL pur purA sliceOf callOp callOpD callD afterD lv lvR evs callBy afterPure lookBy snapN snapG snapGL snapOf snapRows okRow hasNil hasNilL borrowed afterMany maskA maskL flatH flatB flatR flatL flatA slotOf getO aUn pick aStr aStore buildV fillBy splice fieldA fieldV addOff aBin isConst aInt aShift eqOp yesO notO leaving guardU resL resV tupOf locs locsL locsH locsB locsF leaveR leave leaveL leaveG leaveGL leaveRows orRows leave1 leave2 leave3 keptA locsR renR ofVal ofVals entry placeOf eqV eqCells eqCell unwind onLoop onRound owned frz restr builtinD tk? lenV indexS indexP rowOk minV minI maxV maxI extractV convertV strIn nilCheckV sliceS sliceV sliceR sliceArr List.length_replicate bounds2 high low bound evo rowsOf appendV appendTo firstConst freshOf List.length_map allLen cut touchesQ touches touchesCall clears List.any_cons List.contains_nil List.contains_cons lookupV mapSet mapNew noKey insA ltKey keyFit intsB capV nilOf nilEq heapC nilC orV nilOr freshZ pstOf frzC ownAt isF isT frzO lastN frzR newR renF tidy tidyBy findA keyEq keyOk mapPut entriesOf lookRes Int.ofNat_eq_natCast Int.cast_ofNat_Int
@[go_sem] theorem appendX_own {el:Option TypeId} {wq:Bool} {h:Heap} {z b l n:Nat} {ys:List (List AV)}:appendX el wq h z b ys (.own l n)=appendTo wq h z b (.own l n) ys:=rfl
@[go_sem] theorem appendX_nils {el:Option TypeId} {wq:Bool} {h:Heap} {z b:Nat} {ys:List (List AV)}:appendX el wq h z b ys .nils=appendTo wq h z b .nils ys:=rfl
@[go_sem] theorem appendX_lit {el:Option TypeId} {wq:Bool} {h:Heap} {z b:Nat} {rs ys:List (List AV)}:appendX el wq h z b ys (.lit rs)=appendTo wq h z b (.lit rs) ys:=rfl
@[go_sem] theorem appendX_rows {el:Option TypeId} {wq:Bool} {h:Heap} {z b:Nat} {rs ys:List (List AV)}:appendX el wq h z b ys (.rows rs)=appendTo wq h z b (.rows rs) ys:=rfl
@[go_sem] theorem appendX_town {t:TypeId} {wq:Bool} {h:Heap} {z b l n:Nat} {ys:List (List AV)}:appendX (some t) wq h z b ys (.town t l n)=tyO t (appendTo wq h z b (.own l n) ys):=by simp [appendX]
@[go_sem] theorem tyO_own {t:TypeId} {l n:Nat} {h:Heap}:tyO t (some (.own l n,h))=some (.town t l n,h):=rfl
@[go_sem] theorem allocT_no {t:TypeId} {r:Option (AV×Heap)}:allocT false t r=r:=rfl
@[go_sem] theorem allocT_yes {t:TypeId} {l o:Nat} {h:Heap}:allocT true t (some (.ptr l o,h))=some (.tptr t l o,h):=rfl
@[go_sem] theorem callV_fn {nl:FuncId→Bool×Nat} {F:Tk→Res} {h:Heap} {args caps:List AV} {g:FuncId}:callV nl F h args (.fn g caps)=callBy (nl g).2 F g h (args++caps) (purA (nl g).1 h (args++caps)):=rfl
@[go_sem] theorem callV_bnd {nl:FuncId→Bool×Nat} {F:Tk→Res} {h:Heap} {args fs:List AV} {g:FuncId}:callV nl F h args (.bnd g fs)=callBy (nl g).2 F g h (fs++args) (purA (nl g).1 h (fs++args)):=rfl
attribute [go_sem] appendS appendMk makeOf makeRows copyV copyTo copyAt copySrc slice2n capH convertO unlessB
@[go_sem] theorem isInt_int:isIntT Tryz.prog 3=true:=by decide +kernel
@[go_sem] theorem K_nlA:K.nlA=nlA:=rfl
@[go_sem] theorem K_shut_P:K.shut.P=Tryz.prog:=rfl
@[go_sem] theorem K_shut_bT:K.shut.bT=K.bT:=rfl
@[go_sem] theorem K_shut_nlT (t:TypeId):K.shut.nlT t=K.nlT t:=rfl
@[go_sem] theorem K_shut_wr (t:Option TypeId):wrOf K.shut t=wrOf K t:=by cases t<;>rfl
@[go_sem] theorem K_shut_wrL (t:Option TypeId) (l:List AV):wrLit K.shut t l=wrLit K t l:=by cases t<;>rfl
/-- In a region whose order is open no call is handed memory whole. -/
def shutM (p:Bool×Nat):Bool×Nat:=match p with
 | (a,2)=>(a,0)
 | p=>p
@[go_sem] theorem K_shut_nlA (f:FuncId):K.shut.nlA f=shutM (nlA f):=by
 show ((nlA f).1,if (nlA f).2=2 then 0 else (nlA f).2)=shutM (nlA f)
 generalize nlA f=p
 obtain ⟨a,b⟩:=p
 by_cases h:b=2
 ·subst h;rfl
 ·simp only [h,if_false]
  unfold shutM
  split
  ·rename_i heq
   simp only [Prod.mk.injEq] at heq
   exact absurd heq.2 h
  ·rfl
attribute [go_sem] shutM slice3 viewOf boundsV clearV clearTo unview litNil isWd stepW ownIn frzI lenO popR_inner
@[go_sem] theorem bwOf_0 (a:List AV):bwOf 0 a=0:=rfl
@[go_sem] theorem bwOf_1 (a:List AV):bwOf 1 a=1:=rfl
@[go_sem] theorem bwOf_2 (a:List AV):bwOf 2 a=2:=rfl
@[go_sem] theorem bwOf_own (l n:Nat) (a:List AV):bwOf 4 (.own l n::a)=1:=rfl
@[go_sem] theorem bwOf_vw (l n i j:Nat) (a:List AV):bwOf 4 (.vw l n i j::a)=1:=rfl
@[go_sem] theorem bwOf_rows (r:List (List AV)) (a:List AV):bwOf 4 (.rows r::a)=0:=rfl
@[go_sem] theorem appendX_vw {el:Option TypeId} {wq:Bool} {h:Heap} {z b l n a m:Nat} {ys:List (List AV)}:appendX el wq h z b ys (.vw l n a m)=appendTo wq h z b (.vw l n a m) ys:=rfl
@[go_sem] theorem K_post:K.post=post:=rfl
attribute [go_sem] nlA post
theorem clears_chg {dy:List (Nat×Nat)} {i:Nat} {fr:Fr} {h h':Heap} {T:List Nat} (e:clears dy i fr T=true):clears dy i fr (chg h h' T)=true:=by
 have sub:∀ (T:List Nat) (l:Nat),l∈chg h h' T→l∈T:=fun T l=>by
  induction T with
  | nil=>simp [chg]
  | cons x r ih =>
   simp only [chg]
   split
   ·exact fun hx=>List.mem_cons_of_mem _ (ih hx)
   ·intro hx
    rcases List.mem_cons.1 hx with rfl | hx
    ·simp
    ·exact List.mem_cons_of_mem _ (ih hx)
 induction dy with
 | nil=>rfl
 | cons a r ih =>
  obtain ⟨j,s⟩:=a
  simp only [clears,Bool.and_eq_true] at e ⊢
  refine ⟨?_,ih e.2⟩
  have e1:=e.1
  by_cases hj:j=i
  ·simp only [hj,if_true,Bool.not_eq_true',List.any_eq_false,List.contains_iff_mem] at e1 ⊢
   exact fun l hl hx=>e1 l hl (sub T l hx)
  ·simp only [hj,if_false]
@[go_sem] theorem clearAll_none {dy:List (Nat×Nat)} {fr:Fr}:clearAll dy fr []=true:=rfl
@[go_sem] theorem clearAll_chg {dy:List (Nat×Nat)} {fr:Fr} {i:Nat} {h h':Heap} {T:List Nat} {r:List (Nat×List Nat)}:clearAll dy fr ((i,chg h h' T)::r)=((clears dy i fr T||clears dy i fr (chg h h' T))&&clearAll dy fr r):=by
 simp only [clearAll]
 cases hc:clears dy i fr T with
 | false=>simp
 | true=>simp [clears_chg hc]
@[go_sem] theorem orBuild_some {h:Heap} {r:Option (AV×Heap)} {v:AV}:orBuild h r (some v)=some (v,h):=rfl
@[go_sem] theorem orBuild_none {q:Bool} {h:Heap} {ev:Operand→AV} {n z b:Nat} {ps:List (Nat×Operand)}:orBuild h (buildN q h ev n ps (some (z,b))) none=sliceN q n z h (piecesN h ev z 0 ps):=rfl
attribute [go_sem] sliceN piecesN
@[go_sem] theorem under_nil (n:Nat):under n []=true:=rfl
@[go_sem] theorem under_cons (n l:Nat) (r:List Nat):(under n (l::r)=true)=(l < n∧under n r=true):=by simp [under]
@[go_sem] theorem outOf_cut {F:Tk→Res} {f k n:Nat} {ks:List It} {fr:Fr} {h:Heap} {l:List Nat}:outOf F f k ks n fr h (some l)=if k≤n∧(under n (locsF (restr fr l))=true∧under n (locsH (h.take n))=true) then F (.run f k ks (restr fr l) (h.take n)) else F (.run f k ks (restr fr l) h):=by
 simp [outOf]
@[go_sem] theorem onTurn_some {F:Tk→Res} {f k n:Nat} {ks:List It} {fr:Fr} {h:Heap} {c:Code} {live:List Nat×List Nat}:onTurn F f k ks c live n (some (fr,h))=if k≤n∧(under n (locsF fr)=true∧under n (locsH (h.take n))=true) then F (.run f k (.code c::.lp c (some live) n::ks) fr (h.take n)) else F (.run f k (.code c::.lp c (some live) n::ks) fr h):=by
 simp [onTurn]
attribute [go_sem] List.size_toArray Array.size_empty Option.getD_some Nat.zero_add Nat.add_zero List.length_nil List.length_cons List.length_append List.nil_append List.append_nil List.cons_append List.getElem?_cons_zero List.getElem?_cons_succ List.getElem?_nil List.getElem?_toArray beq_iff_eq List.take_zero List.take_succ_cons List.take_nil List.drop_zero List.drop_succ_cons List.drop_nil List.set_cons_zero List.set_cons_succ List.length_set List.replicate_zero List.replicate_succ List.any_nil Bool.not_false Bool.not_true Bool.and_true Bool.true_and Bool.and_false Bool.false_and Bool.or_true Bool.or_false Bool.true_or Bool.false_or Bool.and_self Bool.false_eq_true if_true if_false ite_true ite_false cond_true cond_false decide_true decide_false decide_eq_true_eq and_self and_true true_and and_false false_and Option.some.injEq AV.bool.injEq Nat.le_refl
end Go.Ab
