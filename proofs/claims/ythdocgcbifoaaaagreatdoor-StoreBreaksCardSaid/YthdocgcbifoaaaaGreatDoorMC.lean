/- What is proved: facts by program on types and code, for rewriting. What is proved: nothing new; rules for rewriting are gathered. Conditions: none. -/
import Derived.Test.YthdocgcbifoaaaaGreatDoorMS
import Derived.Test.YthdocgcbifoaaaaGreatDoorMX3
set_option linter.unusedSimpArgs false
set_option linter.unusedVariables false
namespace Go.Ab
open Go Go.Proofs
set_option maxRecDepth 100000
@[go_sem] theorem K_P:K.P=Tryz.prog:=rfl
@[go_sem] theorem K_bT:K.bT=205:=rfl
@[go_sem] theorem wrT_22:wrOf K (some 22)=true:=rfl
@[go_sem] theorem wrT_26:wrOf K (some 26)=true:=rfl
@[go_sem] theorem wrT_30:wrOf K (some 30)=true:=rfl
@[go_sem] theorem wrT_36:wrOf K (some 36)=false:=rfl
@[go_sem] theorem wrT_45:wrOf K (some 45)=true:=rfl
@[go_sem] theorem wrT_46:wrOf K (some 46)=false:=rfl
@[go_sem] theorem wrT_47:wrOf K (some 47)=false:=rfl
@[go_sem] theorem wrT_48:wrOf K (some 48)=false:=rfl
@[go_sem] theorem wrT_75:wrOf K (some 75)=true:=rfl
@[go_sem] theorem wrT_80:wrOf K (some 80)=true:=rfl
@[go_sem] theorem wrT_154:wrOf K (some 154)=false:=rfl
@[go_sem] theorem wrT_171:wrOf K (some 171)=false:=rfl
@[go_sem] theorem wrT_183:wrOf K (some 183)=false:=rfl
@[go_sem] theorem wrT_188:wrOf K (some 188)=true:=rfl
@[go_sem] theorem nlT_22:K.nlT 22=false:=rfl
@[go_sem] theorem nlT_26:K.nlT 26=true:=rfl
@[go_sem] theorem nlT_30:K.nlT 30=true:=rfl
@[go_sem] theorem nlT_36:K.nlT 36=false:=rfl
@[go_sem] theorem nlT_45:K.nlT 45=true:=rfl
@[go_sem] theorem nlT_46:K.nlT 46=false:=rfl
@[go_sem] theorem nlT_47:K.nlT 47=true:=rfl
@[go_sem] theorem nlT_48:K.nlT 48=true:=rfl
@[go_sem] theorem nlT_75:K.nlT 75=false:=rfl
@[go_sem] theorem nlT_80:K.nlT 80=false:=rfl
@[go_sem] theorem nlT_154:K.nlT 154=false:=rfl
@[go_sem] theorem nlT_171:K.nlT 171=false:=rfl
@[go_sem] theorem nlT_177:K.nlT 177=false:=rfl
@[go_sem] theorem nlT_183:K.nlT 183=false:=rfl
@[go_sem] theorem nlT_188:K.nlT 188=false:=rfl
@[go_sem] theorem nlT_210:K.nlT 210=false:=rfl
abbrev CallT (n:Nat) (f:Func):Prop:=∀ (args:List AV) (h:Heap),R K (.call n args h)=R K (.run n h.length [.code (f.body.getD .skip)] (entry 0 args) h)
theorem ret_of {f m k:Nat} {fr:Fr} {h:Heap} {fn:Func} {rs:List ResultVar} (h1:Tryz.prog.funcs[f]? = some fn) (h2:fn.results.toList=rs) (h3:K.ret f=m):retOf K f k fr h=leaving m k h (resL Tryz.prog fr h rs):=by
 unfold retOf
 rw [K_P,h1,←h2,←h3]
@[go_sem] theorem ar_128:ar Tryz.prog 128=none:=rfl
@[go_sem] theorem ar_130:ar Tryz.prog 130=none:=rfl
@[go_sem] theorem ar_154:ar Tryz.prog 154=none:=rfl
@[go_sem] theorem ar_171:ar Tryz.prog 171=none:=rfl
@[go_sem] theorem ar_177:ar Tryz.prog 177=none:=rfl
@[go_sem] theorem ar_183:ar Tryz.prog 183=none:=rfl
@[go_sem] theorem ar_188:ar Tryz.prog 188=none:=rfl
@[go_sem] theorem ar_210:ar Tryz.prog 210=none:=rfl
@[go_sem] theorem ar_22:ar Tryz.prog 22=none:=rfl
@[go_sem] theorem ar_241:ar Tryz.prog 241=none:=rfl
@[go_sem] theorem ar_26:ar Tryz.prog 26=none:=rfl
@[go_sem] theorem ar_30:ar Tryz.prog 30=none:=rfl
@[go_sem] theorem ar_323:ar Tryz.prog 323=some (6,3,1):=rfl
@[go_sem] theorem ar_36:ar Tryz.prog 36=none:=rfl
@[go_sem] theorem ar_45:ar Tryz.prog 45=none:=rfl
@[go_sem] theorem ar_46:ar Tryz.prog 46=none:=rfl
@[go_sem] theorem ar_47:ar Tryz.prog 47=none:=rfl
@[go_sem] theorem ar_48:ar Tryz.prog 48=none:=rfl
@[go_sem] theorem ar_75:ar Tryz.prog 75=none:=rfl
@[go_sem] theorem ar_80:ar Tryz.prog 80=none:=rfl
@[go_sem] theorem ar_9:ar Tryz.prog 9=none:=rfl
@[go_sem] theorem ck_105:ck Tryz.prog 105=.ptr:=by kernel_rfl
@[go_sem] theorem ck_125:ck Tryz.prog 125=.map:=by kernel_rfl
@[go_sem] theorem ck_188:ck Tryz.prog 188=.no:=by kernel_rfl
@[go_sem] theorem ck_199:ck Tryz.prog 199=.no:=by kernel_rfl
@[go_sem] theorem ck_207:ck Tryz.prog 207=.iface:=by kernel_rfl
@[go_sem] theorem ck_235:ck Tryz.prog 235=.no:=by kernel_rfl
@[go_sem] theorem ck_26:ck Tryz.prog 26=.no:=by kernel_rfl
@[go_sem] theorem ck_3:ck Tryz.prog 3=.no:=by kernel_rfl
@[go_sem] theorem ck_30:ck Tryz.prog 30=.no:=by kernel_rfl
@[go_sem] theorem ck_37:ck Tryz.prog 37=.no:=by kernel_rfl
@[go_sem] theorem ck_43:ck Tryz.prog 43=.flat [.int,.str,.int,.str]:=by kernel_rfl
@[go_sem] theorem ck_45:ck Tryz.prog 45=.no:=by kernel_rfl
@[go_sem] theorem ck_46:ck Tryz.prog 46=.no:=by kernel_rfl
@[go_sem] theorem ck_47:ck Tryz.prog 47=.no:=by kernel_rfl
@[go_sem] theorem ck_48:ck Tryz.prog 48=.no:=by kernel_rfl
@[go_sem] theorem ck_5:ck Tryz.prog 5=.no:=by kernel_rfl
@[go_sem] theorem ck_57:ck Tryz.prog 57=.flat [.int,.int,.str]:=by kernel_rfl
@[go_sem] theorem ck_75:ck Tryz.prog 75=.no:=by kernel_rfl
@[go_sem] theorem ck_80:ck Tryz.prog 80=.no:=by kernel_rfl
@[go_sem] theorem ck_9:ck Tryz.prog 9=.no:=by kernel_rfl
@[go_sem] theorem cv_154_9:cvOf Tryz.prog 154 9=.ofBytes:=rfl
@[go_sem] theorem cv_199_3:cvOf Tryz.prog 199 3=.int .i64:=rfl
@[go_sem] theorem cv_21_9:cvOf Tryz.prog 21 9=.str:=rfl
@[go_sem] theorem cv_235_5:cvOf Tryz.prog 235 5=.int .u8:=rfl
@[go_sem] theorem cv_3_199:cvOf Tryz.prog 3 199=.int .u64:=rfl
@[go_sem] theorem cv_3_21:cvOf Tryz.prog 3 21=.int .i32:=rfl
@[go_sem] theorem cv_3_235:cvOf Tryz.prog 3 235=.int .u64:=rfl
@[go_sem] theorem cv_3_5:cvOf Tryz.prog 3 5=.int .u8:=rfl
@[go_sem] theorem cv_5_235:cvOf Tryz.prog 5 235=.int .u64:=rfl
@[go_sem] theorem cv_5_3:cvOf Tryz.prog 5 3=.int .i64:=rfl
@[go_sem] theorem cv_9_154:cvOf Tryz.prog 9 154=.bytes:=rfl
@[go_sem] theorem el_154:elT Tryz.prog 154=some (5):=rfl
@[go_sem] theorem es_122:es Tryz.prog 122=some (2,16):=rfl
@[go_sem] theorem es_125:es Tryz.prog 125=none:=rfl
@[go_sem] theorem es_128:es Tryz.prog 128=some (1,24):=rfl
@[go_sem] theorem es_130:es Tryz.prog 130=some (1,1):=rfl
@[go_sem] theorem es_154:es Tryz.prog 154=some (1,1):=rfl
@[go_sem] theorem es_171:es Tryz.prog 171=some (2,16):=rfl
@[go_sem] theorem es_177:es Tryz.prog 177=some (4,72):=rfl
@[go_sem] theorem es_183:es Tryz.prog 183=some (3,64):=rfl
@[go_sem] theorem es_188:es Tryz.prog 188=some (1,24):=rfl
@[go_sem] theorem es_210:es Tryz.prog 210=some (1,8):=rfl
@[go_sem] theorem es_22:es Tryz.prog 22=some (1,8):=rfl
@[go_sem] theorem es_241:es Tryz.prog 241=some (1,8):=rfl
@[go_sem] theorem es_26:es Tryz.prog 26=some (5,112):=rfl
@[go_sem] theorem es_269:es Tryz.prog 269=none:=rfl
@[go_sem] theorem es_3:es Tryz.prog 3=none:=rfl
@[go_sem] theorem es_30:es Tryz.prog 30=some (2,40):=rfl
@[go_sem] theorem es_323:es Tryz.prog 323=none:=rfl
@[go_sem] theorem es_36:es Tryz.prog 36=some (4,48):=rfl
@[go_sem] theorem es_45:es Tryz.prog 45=some (6,64):=rfl
@[go_sem] theorem es_46:es Tryz.prog 46=some (1,16):=rfl
@[go_sem] theorem es_47:es Tryz.prog 47=some (3,56):=rfl
@[go_sem] theorem es_48:es Tryz.prog 48=some (3,48):=rfl
@[go_sem] theorem es_75:es Tryz.prog 75=some (3,32):=rfl
@[go_sem] theorem es_80:es Tryz.prog 80=some (1,24):=rfl
@[go_sem] theorem es_9:es Tryz.prog 9=none:=rfl
@[go_sem] theorem ez_128:elemZero Tryz.prog 128=some (.nils):=rfl
@[go_sem] theorem ez_130:elemZero Tryz.prog 130=some (.bool false):=rfl
@[go_sem] theorem ez_154:elemZero Tryz.prog 154=some (.int .u8 0):=rfl
@[go_sem] theorem ez_188:elemZero Tryz.prog 188=some (.nils):=rfl
@[go_sem] theorem ez_241:elemZero Tryz.prog 241=some (.nilm):=rfl
@[go_sem] theorem fo_124_0:fo Tryz.prog 124 0=some (0,28):=rfl
@[go_sem] theorem fo_124_1:fo Tryz.prog 124 1=some (1,32):=rfl
@[go_sem] theorem fo_124_2:fo Tryz.prog 124 2=some (2,122):=rfl
@[go_sem] theorem fo_127_2:fo Tryz.prog 127 2=some (2,28):=rfl
@[go_sem] theorem fo_127_3:fo Tryz.prog 127 3=some (3,32):=rfl
@[go_sem] theorem fo_127_5:fo Tryz.prog 127 5=some (5,125):=rfl
@[go_sem] theorem fo_127_7:fo Tryz.prog 127 7=some (7,4):=rfl
@[go_sem] theorem fo_135_0:fo Tryz.prog 135 0=some (0,3):=rfl
@[go_sem] theorem fo_135_1:fo Tryz.prog 135 1=some (1,9):=rfl
@[go_sem] theorem fo_135_2:fo Tryz.prog 135 2=some (2,75):=rfl
@[go_sem] theorem fo_135_3:fo Tryz.prog 135 3=some (3,75):=rfl
@[go_sem] theorem fo_160_0:fo Tryz.prog 160 0=some (0,4):=rfl
@[go_sem] theorem fo_173_0:fo Tryz.prog 173 0=some (0,167):=rfl
@[go_sem] theorem fo_173_1:fo Tryz.prog 173 1=some (1,154):=rfl
@[go_sem] theorem fo_173_2:fo Tryz.prog 173 2=some (2,171):=rfl
@[go_sem] theorem fo_175_0:fo Tryz.prog 175 0=some (0,105):=rfl
@[go_sem] theorem fo_175_1:fo Tryz.prog 175 1=some (1,3):=rfl
@[go_sem] theorem fo_175_2:fo Tryz.prog 175 2=some (2,167):=rfl
@[go_sem] theorem fo_175_3:fo Tryz.prog 175 3=some (3,167):=rfl
@[go_sem] theorem fo_175_4:fo Tryz.prog 175 4=some (4,125):=rfl
@[go_sem] theorem fo_175_5:fo Tryz.prog 175 5=some (5,4):=rfl
@[go_sem] theorem fo_175_6:fo Tryz.prog 175 6=some (6,4):=rfl
@[go_sem] theorem fo_180_0:fo Tryz.prog 180 0=some (0,125):=rfl
@[go_sem] theorem fo_180_1:fo Tryz.prog 180 1=some (1,4):=rfl
@[go_sem] theorem fo_190_0:fo Tryz.prog 190 0=some (0,28):=rfl
@[go_sem] theorem fo_190_1:fo Tryz.prog 190 1=some (1,188):=rfl
@[go_sem] theorem fo_205_1:fo Tryz.prog 205 1=some (1,154):=rfl
@[go_sem] theorem fo_243_0:fo Tryz.prog 243 0=some (0,167):=rfl
@[go_sem] theorem fo_243_1:fo Tryz.prog 243 1=some (1,167):=rfl
@[go_sem] theorem fo_243_2:fo Tryz.prog 243 2=some (2,241):=rfl
@[go_sem] theorem fo_243_3:fo Tryz.prog 243 3=some (3,188):=rfl
@[go_sem] theorem fo_247_0:fo Tryz.prog 247 0=some (0,154):=rfl
@[go_sem] theorem fo_25_0:fo Tryz.prog 25 0=some (0,22):=rfl
@[go_sem] theorem fo_25_1:fo Tryz.prog 25 1=some (1,3):=rfl
@[go_sem] theorem fo_253_0:fo Tryz.prog 253 0=some (0,9):=rfl
@[go_sem] theorem fo_253_1:fo Tryz.prog 253 1=some (1,80):=rfl
@[go_sem] theorem fo_253_2:fo Tryz.prog 253 2=some (2,80):=rfl
@[go_sem] theorem fo_28_0:fo Tryz.prog 28 0=some (0,26):=rfl
@[go_sem] theorem fo_32_0:fo Tryz.prog 32 0=some (0,30):=rfl
@[go_sem] theorem fo_50_0:fo Tryz.prog 50 0=some (0,9):=rfl
@[go_sem] theorem fo_50_1:fo Tryz.prog 50 1=some (1,45):=rfl
@[go_sem] theorem fo_50_2:fo Tryz.prog 50 2=some (2,46):=rfl
@[go_sem] theorem fo_50_3:fo Tryz.prog 50 3=some (3,47):=rfl
@[go_sem] theorem fo_50_4:fo Tryz.prog 50 4=some (4,48):=rfl
@[go_sem] theorem fo_55_0:fo Tryz.prog 55 0=some (0,9):=rfl
@[go_sem] theorem fo_55_1:fo Tryz.prog 55 1=some (1,46):=rfl
@[go_sem] theorem fo_55_2:fo Tryz.prog 55 2=some (2,9):=rfl
@[go_sem] theorem fo_57_0:fo Tryz.prog 57 0=some (0,3):=rfl
@[go_sem] theorem fo_57_1:fo Tryz.prog 57 1=some (1,3):=rfl
@[go_sem] theorem fo_57_2:fo Tryz.prog 57 2=some (2,9):=rfl
@[go_sem] theorem fo_59_0:fo Tryz.prog 59 0=some (0,9):=rfl
@[go_sem] theorem fo_59_1:fo Tryz.prog 59 1=some (1,3):=rfl
@[go_sem] theorem fo_59_2:fo Tryz.prog 59 2=some (2,4):=rfl
@[go_sem] theorem fo_59_3:fo Tryz.prog 59 3=some (3,57):=rfl
@[go_sem] theorem fo_82_0:fo Tryz.prog 82 0=some (0,9):=rfl
@[go_sem] theorem fo_82_1:fo Tryz.prog 82 1=some (1,80):=rfl
@[go_sem] theorem fo_91_0:fo Tryz.prog 91 0=some (0,28):=rfl
@[go_sem] theorem fo_91_1:fo Tryz.prog 91 1=some (1,32):=rfl
@[go_sem] theorem fo_91_2:fo Tryz.prog 91 2=some (2,36):=rfl
@[go_sem] theorem fo_97_0:fo Tryz.prog 97 0=some (0,9):=rfl
@[go_sem] theorem fo_97_1:fo Tryz.prog 97 1=some (1,46):=rfl
@[go_sem] theorem fo_97_2:fo Tryz.prog 97 2=some (2,4):=rfl
@[go_sem] theorem isl_105:isSl Tryz.prog 105=false:=rfl
@[go_sem] theorem isl_125:isSl Tryz.prog 125=false:=rfl
@[go_sem] theorem isl_188:isSl Tryz.prog 188=true:=rfl
@[go_sem] theorem isl_199:isSl Tryz.prog 199=false:=rfl
@[go_sem] theorem isl_207:isSl Tryz.prog 207=false:=rfl
@[go_sem] theorem isl_235:isSl Tryz.prog 235=false:=rfl
@[go_sem] theorem isl_26:isSl Tryz.prog 26=true:=rfl
@[go_sem] theorem isl_3:isSl Tryz.prog 3=false:=rfl
@[go_sem] theorem isl_30:isSl Tryz.prog 30=true:=rfl
@[go_sem] theorem isl_37:isSl Tryz.prog 37=false:=rfl
@[go_sem] theorem isl_43:isSl Tryz.prog 43=false:=rfl
@[go_sem] theorem isl_45:isSl Tryz.prog 45=true:=rfl
@[go_sem] theorem isl_46:isSl Tryz.prog 46=true:=rfl
@[go_sem] theorem isl_47:isSl Tryz.prog 47=true:=rfl
@[go_sem] theorem isl_48:isSl Tryz.prog 48=true:=rfl
@[go_sem] theorem isl_5:isSl Tryz.prog 5=false:=rfl
@[go_sem] theorem isl_57:isSl Tryz.prog 57=false:=rfl
@[go_sem] theorem isl_75:isSl Tryz.prog 75=true:=rfl
@[go_sem] theorem isl_80:isSl Tryz.prog 80=true:=rfl
@[go_sem] theorem isl_9:isSl Tryz.prog 9=false:=rfl
@[go_sem] theorem kk_125:kkOf Tryz.prog 125=some (.str,4):=rfl
@[go_sem] theorem kk_254:kkOf Tryz.prog 254=some (.str,75):=rfl
@[go_sem] theorem plc_124:plc Tryz.prog 124=some (.fields [(0,1),(1,1),(2,1)]):=rfl
@[go_sem] theorem plc_127:plc Tryz.prog 127=some (.fields [(0,1),(1,1),(2,1),(3,1),(4,1),(5,1),(6,1),(7,1)]):=rfl
@[go_sem] theorem plc_135:plc Tryz.prog 135=some (.fields [(0,1),(1,1),(2,1),(3,1)]):=rfl
@[go_sem] theorem plc_160:plc Tryz.prog 160=some (.fields [(0,1)]):=rfl
@[go_sem] theorem plc_173:plc Tryz.prog 173=some (.fields [(0,1),(1,1),(2,1)]):=rfl
@[go_sem] theorem plc_175:plc Tryz.prog 175=some (.fields [(0,1),(1,1),(2,1),(3,1),(4,1),(5,1),(6,1)]):=rfl
@[go_sem] theorem plc_180:plc Tryz.prog 180=some (.fields [(0,1),(1,1)]):=rfl
@[go_sem] theorem plc_190:plc Tryz.prog 190=some (.fields [(0,1),(1,1)]):=rfl
@[go_sem] theorem plc_243:plc Tryz.prog 243=some (.fields [(0,1),(1,1),(2,1),(3,1)]):=rfl
@[go_sem] theorem plc_247:plc Tryz.prog 247=some (.fields [(0,1)]):=rfl
@[go_sem] theorem plc_25:plc Tryz.prog 25=some (.fields [(0,1),(1,1)]):=rfl
@[go_sem] theorem plc_253:plc Tryz.prog 253=some (.fields [(0,1),(1,1),(2,1)]):=rfl
@[go_sem] theorem plc_28:plc Tryz.prog 28=some (.fields [(0,1)]):=rfl
@[go_sem] theorem plc_32:plc Tryz.prog 32=some (.fields [(0,1)]):=rfl
@[go_sem] theorem plc_323:plc Tryz.prog 323=some (.elems 1):=rfl
@[go_sem] theorem plc_43:plc Tryz.prog 43=some (.fields [(0,1),(1,1),(2,1),(3,1)]):=rfl
@[go_sem] theorem plc_50:plc Tryz.prog 50=some (.fields [(0,1),(1,1),(2,1),(3,1),(4,1)]):=rfl
@[go_sem] theorem plc_55:plc Tryz.prog 55=some (.fields [(0,1),(1,1),(2,1)]):=rfl
@[go_sem] theorem plc_57:plc Tryz.prog 57=some (.fields [(0,1),(1,1),(2,1)]):=rfl
@[go_sem] theorem plc_59:plc Tryz.prog 59=some (.fields [(0,1),(1,1),(2,1),(3,3)]):=rfl
@[go_sem] theorem plc_82:plc Tryz.prog 82=some (.fields [(0,1),(1,1)]):=rfl
@[go_sem] theorem plc_91:plc Tryz.prog 91=some (.fields [(0,1),(1,1),(2,1)]):=rfl
@[go_sem] theorem plc_97:plc Tryz.prog 97=some (.fields [(0,1),(1,1),(2,1)]):=rfl
@[go_sem] theorem sh_105:sh Tryz.prog 105=some .one:=rfl
@[go_sem] theorem sh_110:sh Tryz.prog 110=some .one:=rfl
@[go_sem] theorem sh_122:sh Tryz.prog 122=some .one:=rfl
@[go_sem] theorem sh_125:sh Tryz.prog 125=some .one:=rfl
@[go_sem] theorem sh_128:sh Tryz.prog 128=some .one:=rfl
@[go_sem] theorem sh_130:sh Tryz.prog 130=some .one:=rfl
@[go_sem] theorem sh_135:sh Tryz.prog 135=some (.agg 4):=rfl
@[go_sem] theorem sh_154:sh Tryz.prog 154=some .one:=rfl
@[go_sem] theorem sh_167:sh Tryz.prog 167=some .one:=rfl
@[go_sem] theorem sh_171:sh Tryz.prog 171=some .one:=rfl
@[go_sem] theorem sh_180:sh Tryz.prog 180=some (.agg 2):=rfl
@[go_sem] theorem sh_188:sh Tryz.prog 188=some .one:=rfl
@[go_sem] theorem sh_213:sh Tryz.prog 213=some .one:=rfl
@[go_sem] theorem sh_22:sh Tryz.prog 22=some .one:=rfl
@[go_sem] theorem sh_238:sh Tryz.prog 238=some .one:=rfl
@[go_sem] theorem sh_241:sh Tryz.prog 241=some .one:=rfl
@[go_sem] theorem sh_253:sh Tryz.prog 253=some (.agg 3):=rfl
@[go_sem] theorem sh_26:sh Tryz.prog 26=some .one:=rfl
@[go_sem] theorem sh_28:sh Tryz.prog 28=some (.agg 1):=rfl
@[go_sem] theorem sh_3:sh Tryz.prog 3=some .one:=rfl
@[go_sem] theorem sh_30:sh Tryz.prog 30=some .one:=rfl
@[go_sem] theorem sh_32:sh Tryz.prog 32=some (.agg 1):=rfl
@[go_sem] theorem sh_323:sh Tryz.prog 323=some (.agg 6):=rfl
@[go_sem] theorem sh_36:sh Tryz.prog 36=some .one:=rfl
@[go_sem] theorem sh_4:sh Tryz.prog 4=some .one:=rfl
@[go_sem] theorem sh_43:sh Tryz.prog 43=some (.agg 4):=rfl
@[go_sem] theorem sh_45:sh Tryz.prog 45=some .one:=rfl
@[go_sem] theorem sh_46:sh Tryz.prog 46=some .one:=rfl
@[go_sem] theorem sh_47:sh Tryz.prog 47=some .one:=rfl
@[go_sem] theorem sh_48:sh Tryz.prog 48=some .one:=rfl
@[go_sem] theorem sh_5:sh Tryz.prog 5=some .one:=rfl
@[go_sem] theorem sh_50:sh Tryz.prog 50=some (.agg 5):=rfl
@[go_sem] theorem sh_55:sh Tryz.prog 55=some (.agg 3):=rfl
@[go_sem] theorem sh_57:sh Tryz.prog 57=some (.agg 3):=rfl
@[go_sem] theorem sh_59:sh Tryz.prog 59=some (.agg 6):=rfl
@[go_sem] theorem sh_75:sh Tryz.prog 75=some .one:=rfl
@[go_sem] theorem sh_80:sh Tryz.prog 80=some .one:=rfl
@[go_sem] theorem sh_82:sh Tryz.prog 82=some (.agg 2):=rfl
@[go_sem] theorem sh_9:sh Tryz.prog 9=some .one:=rfl
@[go_sem] theorem sh_94:sh Tryz.prog 94=some .one:=rfl
@[go_sem] theorem sh_97:sh Tryz.prog 97=some (.agg 3):=rfl
@[go_sem] theorem sz_125:szOf Tryz.prog 125=some (1):=rfl
@[go_sem] theorem sz_128:szOf Tryz.prog 128=some (1):=rfl
@[go_sem] theorem sz_130:szOf Tryz.prog 130=some (1):=rfl
@[go_sem] theorem sz_135:szOf Tryz.prog 135=some (4):=rfl
@[go_sem] theorem sz_154:szOf Tryz.prog 154=some (1):=rfl
@[go_sem] theorem sz_167:szOf Tryz.prog 167=some (1):=rfl
@[go_sem] theorem sz_171:szOf Tryz.prog 171=some (1):=rfl
@[go_sem] theorem sz_180:szOf Tryz.prog 180=some (2):=rfl
@[go_sem] theorem sz_253:szOf Tryz.prog 253=some (3):=rfl
@[go_sem] theorem sz_26:szOf Tryz.prog 26=some (1):=rfl
@[go_sem] theorem sz_28:szOf Tryz.prog 28=some (1):=rfl
@[go_sem] theorem sz_3:szOf Tryz.prog 3=some (1):=rfl
@[go_sem] theorem sz_30:szOf Tryz.prog 30=some (1):=rfl
@[go_sem] theorem sz_32:szOf Tryz.prog 32=some (1):=rfl
@[go_sem] theorem sz_323:szOf Tryz.prog 323=some (6):=rfl
@[go_sem] theorem sz_36:szOf Tryz.prog 36=some (1):=rfl
@[go_sem] theorem sz_4:szOf Tryz.prog 4=some (1):=rfl
@[go_sem] theorem sz_45:szOf Tryz.prog 45=some (1):=rfl
@[go_sem] theorem sz_46:szOf Tryz.prog 46=some (1):=rfl
@[go_sem] theorem sz_47:szOf Tryz.prog 47=some (1):=rfl
@[go_sem] theorem sz_48:szOf Tryz.prog 48=some (1):=rfl
@[go_sem] theorem sz_50:szOf Tryz.prog 50=some (5):=rfl
@[go_sem] theorem sz_55:szOf Tryz.prog 55=some (3):=rfl
@[go_sem] theorem sz_57:szOf Tryz.prog 57=some (3):=rfl
@[go_sem] theorem sz_59:szOf Tryz.prog 59=some (6):=rfl
@[go_sem] theorem sz_75:szOf Tryz.prog 75=some (1):=rfl
@[go_sem] theorem sz_80:szOf Tryz.prog 80=some (1):=rfl
@[go_sem] theorem sz_82:szOf Tryz.prog 82=some (2):=rfl
@[go_sem] theorem sz_9:szOf Tryz.prog 9=some (1):=rfl
@[go_sem] theorem sz_94:szOf Tryz.prog 94=some (1):=rfl
@[go_sem] theorem sz_97:szOf Tryz.prog 97=some (3):=rfl
@[go_sem] theorem tk_122:tk Tryz.prog 122=.slice 2 16:=rfl
@[go_sem] theorem tk_125:tk Tryz.prog 125=.other:=rfl
@[go_sem] theorem tk_154:tk Tryz.prog 154=.slice 1 1:=rfl
@[go_sem] theorem tk_171:tk Tryz.prog 171=.slice 2 16:=rfl
@[go_sem] theorem tk_177:tk Tryz.prog 177=.slice 4 72:=rfl
@[go_sem] theorem tk_183:tk Tryz.prog 183=.slice 3 64:=rfl
@[go_sem] theorem tk_188:tk Tryz.prog 188=.slice 1 24:=rfl
@[go_sem] theorem tk_210:tk Tryz.prog 210=.slice 1 8:=rfl
@[go_sem] theorem tk_22:tk Tryz.prog 22=.slice 1 8:=rfl
@[go_sem] theorem tk_26:tk Tryz.prog 26=.slice 5 112:=rfl
@[go_sem] theorem tk_269:tk Tryz.prog 269=.other:=rfl
@[go_sem] theorem tk_3:tk Tryz.prog 3=.other:=rfl
@[go_sem] theorem tk_30:tk Tryz.prog 30=.slice 2 40:=rfl
@[go_sem] theorem tk_323:tk Tryz.prog 323=.arr 6:=rfl
@[go_sem] theorem tk_36:tk Tryz.prog 36=.slice 4 48:=rfl
@[go_sem] theorem tk_45:tk Tryz.prog 45=.slice 6 64:=rfl
@[go_sem] theorem tk_46:tk Tryz.prog 46=.slice 1 16:=rfl
@[go_sem] theorem tk_47:tk Tryz.prog 47=.slice 3 56:=rfl
@[go_sem] theorem tk_48:tk Tryz.prog 48=.slice 3 48:=rfl
@[go_sem] theorem tk_75:tk Tryz.prog 75=.slice 3 32:=rfl
@[go_sem] theorem tk_80:tk Tryz.prog 80=.slice 1 24:=rfl
@[go_sem] theorem tk_9:tk Tryz.prog 9=.str:=rfl
@[go_sem] theorem zv_124:zv Tryz.prog 124=some (.agg [.nils,.nils,.nils]):=rfl
@[go_sem] theorem zv_127:zv Tryz.prog 127=some (.agg [.nilp,.int .i64 0,.nils,.nils,.nils,.nilm,.bool false,.bool false]):=rfl
@[go_sem] theorem zv_128:zv Tryz.prog 128=some (.nils):=rfl
@[go_sem] theorem zv_135:zv Tryz.prog 135=some (.agg [.int .i64 0,.str [],.nils,.nils]):=rfl
@[go_sem] theorem zv_160:zv Tryz.prog 160=some (.agg [.bool false]):=rfl
@[go_sem] theorem zv_173:zv Tryz.prog 173=some (.agg [.nilp,.nils,.nils]):=rfl
@[go_sem] theorem zv_175:zv Tryz.prog 175=some (.agg [.nilp,.int .i64 0,.nilp,.nilp,.nilm,.bool false,.bool false]):=rfl
@[go_sem] theorem zv_180:zv Tryz.prog 180=some (.agg [.nilm,.bool false]):=rfl
@[go_sem] theorem zv_190:zv Tryz.prog 190=some (.agg [.nils,.nils]):=rfl
@[go_sem] theorem zv_205:zv Tryz.prog 205=some (.agg [.nilp,.nils]):=rfl
@[go_sem] theorem zv_243:zv Tryz.prog 243=some (.agg [.nilp,.nilp,.nils,.nils]):=rfl
@[go_sem] theorem zv_247:zv Tryz.prog 247=some (.agg [.nils]):=rfl
@[go_sem] theorem zv_25:zv Tryz.prog 25=some (.agg [.nils,.int .i64 0]):=rfl
@[go_sem] theorem zv_253:zv Tryz.prog 253=some (.agg [.str [],.nils,.nils]):=rfl
@[go_sem] theorem zv_28:zv Tryz.prog 28=some (.agg [.nils]):=rfl
@[go_sem] theorem zv_3:zv Tryz.prog 3=some (.int .i64 0):=rfl
@[go_sem] theorem zv_32:zv Tryz.prog 32=some (.agg [.nils]):=rfl
@[go_sem] theorem zv_323:zv Tryz.prog 323=some (.agg [.int .i64 0,.int .i64 0,.int .i64 0,.int .i64 0,.int .i64 0,.int .i64 0]):=rfl
@[go_sem] theorem zv_36:zv Tryz.prog 36=some (.nils):=rfl
@[go_sem] theorem zv_4:zv Tryz.prog 4=some (.bool false):=rfl
@[go_sem] theorem zv_43:zv Tryz.prog 43=some (.agg [.int .i64 0,.str [],.int .i64 0,.str []]):=rfl
@[go_sem] theorem zv_46:zv Tryz.prog 46=some (.nils):=rfl
@[go_sem] theorem zv_50:zv Tryz.prog 50=some (.agg [.str [],.nils,.nils,.nils,.nils]):=rfl
@[go_sem] theorem zv_55:zv Tryz.prog 55=some (.agg [.str [],.nils,.str []]):=rfl
@[go_sem] theorem zv_57:zv Tryz.prog 57=some (.agg [.int .i64 0,.int .i64 0,.str []]):=rfl
@[go_sem] theorem zv_59:zv Tryz.prog 59=some (.agg [.str [],.int .i64 0,.bool false,.int .i64 0,.int .i64 0,.str []]):=rfl
@[go_sem] theorem zv_75:zv Tryz.prog 75=some (.nils):=rfl
@[go_sem] theorem zv_82:zv Tryz.prog 82=some (.agg [.str [],.nils]):=rfl
@[go_sem] theorem zv_9:zv Tryz.prog 9=some (.str []):=rfl
@[go_sem] theorem zv_91:zv Tryz.prog 91=some (.agg [.nils,.nils,.nils]):=rfl
@[go_sem] theorem zv_94:zv Tryz.prog 94=some (.nilf):=rfl
@[go_sem] theorem zv_97:zv Tryz.prog 97=some (.agg [.str [],.nils,.bool false]):=rfl
@[go_sem] theorem live_3_0:K.live 3 0=some ([3,4,5,19,20],[],[]):=rfl
@[go_sem] theorem out_3_0:K.out 3 0=some [4,5]:=rfl
@[go_sem] theorem live_3_1:K.live 3 1=none:=rfl
@[go_sem] theorem out_3_1:K.out 3 1=none:=rfl
@[go_sem] theorem live_4_0:K.live 4 0=some ([0,2,3,16,17],[(3,some 0,5,false)],[]):=rfl
@[go_sem] theorem out_4_0:K.out 4 0=some [0,2,3]:=rfl
@[go_sem] theorem live_4_1:K.live 4 1=none:=rfl
@[go_sem] theorem out_4_1:K.out 4 1=none:=rfl
@[go_sem] theorem live_4_2:K.live 4 2=some ([0,2,3,34,35],[],[]):=rfl
@[go_sem] theorem out_4_2:K.out 4 2=some [2,3]:=rfl
@[go_sem] theorem live_4_3:K.live 4 3=none:=rfl
@[go_sem] theorem out_4_3:K.out 4 3=none:=rfl
@[go_sem] theorem live_4_4:K.live 4 4=some ([0,2,3,5,6,7,34,35,67,68,69],[(7,some 1,1,false)],[]):=rfl
@[go_sem] theorem out_4_4:K.out 4 4=some [0,2,3,5,7,34,35]:=rfl
@[go_sem] theorem live_4_5:K.live 4 5=none:=rfl
@[go_sem] theorem out_4_5:K.out 4 5=none:=rfl
@[go_sem] theorem live_4_6:K.live 4 6=some ([0,2,3,5,6,7,10,34,35,67,68,69,85,86,87],[],[]):=rfl
@[go_sem] theorem out_4_6:K.out 4 6=some [0,2,3,5,6,7,34,35,67,68,69]:=rfl
@[go_sem] theorem live_4_7:K.live 4 7=none:=rfl
@[go_sem] theorem out_4_7:K.out 4 7=none:=rfl
@[go_sem] theorem dyn_4_5:K.dyn 4 5=[(8,20)]:=rfl
@[go_sem] theorem dyn_4_9:K.dyn 4 9=[(6,37),(6,45),(6,48),(14,37),(14,38),(14,45)]:=rfl
@[go_sem] theorem dyn_4_10:K.dyn 4 10=[]:=rfl
@[go_sem] theorem dyn_4_14:K.dyn 4 14=[(5,73)]:=rfl
@[go_sem] theorem dyn_4_24:K.dyn 4 24=[]:=rfl
@[go_sem] theorem dyn_4_25:K.dyn 4 25=[(7,132),(7,7),(7,140),(10,132)]:=rfl
@[go_sem] theorem live_5_0:K.live 5 0=some ([0,2,4,6,7,8,22],[],[]):=rfl
@[go_sem] theorem out_5_0:K.out 5 0=some [6,7]:=rfl
@[go_sem] theorem live_5_1:K.live 5 1=none:=rfl
@[go_sem] theorem out_5_1:K.out 5 1=none:=rfl
@[go_sem] theorem live_5_2:K.live 5 2=some ([0,2,4,6,7,8,22,24,25,26],[],[]):=rfl
@[go_sem] theorem out_5_2:K.out 5 2=some [0,2,4,6,7,8,22]:=rfl
@[go_sem] theorem live_5_3:K.live 5 3=none:=rfl
@[go_sem] theorem out_5_3:K.out 5 3=none:=rfl
@[go_sem] theorem live_5_4:K.live 5 4=some ([0,2,4,6,7,8,11,22,24,25,26,33,34],[],[]):=rfl
@[go_sem] theorem out_5_4:K.out 5 4=some [0,2,4,6,7,8,22,24,25,26]:=rfl
@[go_sem] theorem live_5_5:K.live 5 5=none:=rfl
@[go_sem] theorem out_5_5:K.out 5 5=none:=rfl
@[go_sem] theorem dyn_5_10:K.dyn 5 10=[(10,46),(11,47)]:=rfl
@[go_sem] theorem live_7_0:K.live 7 0=none:=rfl
@[go_sem] theorem out_7_0:K.out 7 0=none:=rfl
@[go_sem] theorem live_7_1:K.live 7 1=none:=rfl
@[go_sem] theorem out_7_1:K.out 7 1=none:=rfl
@[go_sem] theorem dyn_7_4:K.dyn 7 4=[(6,16)]:=rfl
@[go_sem] theorem dyn_7_7:K.dyn 7 7=[(12,41)]:=rfl
@[go_sem] theorem dyn_7_10:K.dyn 7 10=[(16,66),(16,67),(16,69),(18,66),(18,67),(18,69)]:=rfl
@[go_sem] theorem dyn_7_14:K.dyn 7 14=[]:=rfl
@[go_sem] theorem dyn_7_16:K.dyn 7 16=[(14,113)]:=rfl
@[go_sem] theorem live_8_0:K.live 8 0=some ([8,27,28],[(8,some 2,4,false)],[]):=rfl
@[go_sem] theorem out_8_0:K.out 8 0=some [8]:=rfl
@[go_sem] theorem live_8_1:K.live 8 1=none:=rfl
@[go_sem] theorem out_8_1:K.out 8 1=none:=rfl
@[go_sem] theorem live_9_0:K.live 9 0=some ([2,3,8,39,40,41],[(8,some 0,4,false)],[]):=rfl
@[go_sem] theorem out_9_0:K.out 9 0=some [8]:=rfl
@[go_sem] theorem live_9_1:K.live 9 1=none:=rfl
@[go_sem] theorem out_9_1:K.out 9 1=none:=rfl
@[go_sem] theorem live_9_2:K.live 9 2=some ([2,3,8,10,11,12,39,40,41,53,54,55],[],[]):=rfl
@[go_sem] theorem out_9_2:K.out 9 2=some [2,3,8,10,11,12,39,40,41]:=rfl
@[go_sem] theorem live_9_3:K.live 9 3=none:=rfl
@[go_sem] theorem out_9_3:K.out 9 3=none:=rfl
@[go_sem] theorem live_9_4:K.live 9 4=some ([2,3,8,10,11,12,13,39,40,41,53,54,55,60,61,62],[],[]):=rfl
@[go_sem] theorem out_9_4:K.out 9 4=some [2,3,8,10,11,12,39,40,41,53,54,55]:=rfl
@[go_sem] theorem live_9_5:K.live 9 5=none:=rfl
@[go_sem] theorem out_9_5:K.out 9 5=none:=rfl
@[go_sem] theorem live_9_6:K.live 9 6=some ([2,3,8,10,11,12,39,40,41,97,98,99],[],[]):=rfl
@[go_sem] theorem out_9_6:K.out 9 6=some [2,3,8,10,11,12,39,40,41]:=rfl
@[go_sem] theorem live_9_7:K.live 9 7=none:=rfl
@[go_sem] theorem out_9_7:K.out 9 7=none:=rfl
@[go_sem] theorem live_9_8:K.live 9 8=some ([2,3,8,10,11,12,39,40,41,113,114,115],[],[]):=rfl
@[go_sem] theorem out_9_8:K.out 9 8=some [2,3,8,39,40,41]:=rfl
@[go_sem] theorem live_9_9:K.live 9 9=none:=rfl
@[go_sem] theorem out_9_9:K.out 9 9=none:=rfl
@[go_sem] theorem live_9_10:K.live 9 10=some ([2,3,8,10,11,12,20,21,39,40,41,113,114,115,123,124,125],[],[]):=rfl
@[go_sem] theorem out_9_10:K.out 9 10=some [2,3,8,10,11,12,39,40,41,113,114,115]:=rfl
@[go_sem] theorem live_9_11:K.live 9 11=none:=rfl
@[go_sem] theorem out_9_11:K.out 9 11=none:=rfl
@[go_sem] theorem dyn_9_20:K.dyn 9 20=[(8,87)]:=rfl
@[go_sem] theorem live_11_0:K.live 11 0=some ([0,1,12,13],[],[]):=rfl
@[go_sem] theorem out_11_0:K.out 11 0=some []:=rfl
@[go_sem] theorem live_11_1:K.live 11 1=none:=rfl
@[go_sem] theorem out_11_1:K.out 11 1=none:=rfl
@[go_sem] theorem dyn_11_6:K.dyn 11 6=[]:=rfl
@[go_sem] theorem live_12_0:K.live 12 0=some ([0,4,5,33,34],[],[]):=rfl
@[go_sem] theorem out_12_0:K.out 12 0=some [0,4,5]:=rfl
@[go_sem] theorem live_12_1:K.live 12 1=none:=rfl
@[go_sem] theorem out_12_1:K.out 12 1=none:=rfl
@[go_sem] theorem live_12_2:K.live 12 2=some ([0,4,5,51,52],[(5,some 4,3,false)],[]):=rfl
@[go_sem] theorem out_12_2:K.out 12 2=some [4,5]:=rfl
@[go_sem] theorem live_12_3:K.live 12 3=none:=rfl
@[go_sem] theorem out_12_3:K.out 12 3=none:=rfl
@[go_sem] theorem live_12_4:K.live 12 4=some ([0,4,5,8,51,52,74,75,76],[(8,some 1,1,false)],[]):=rfl
@[go_sem] theorem out_12_4:K.out 12 4=some [0,4,5,8,51,52]:=rfl
@[go_sem] theorem live_12_5:K.live 12 5=none:=rfl
@[go_sem] theorem out_12_5:K.out 12 5=none:=rfl
@[go_sem] theorem dyn_12_3:K.dyn 12 3=[(4,18)]:=rfl
@[go_sem] theorem dyn_12_8:K.dyn 12 8=[(8,37)]:=rfl
@[go_sem] theorem dyn_12_14:K.dyn 12 14=[(4,69),(10,73)]:=rfl
@[go_sem] theorem dyn_12_17:K.dyn 12 17=[]:=rfl
@[go_sem] theorem dyn_13_4:K.dyn 13 4=[]:=rfl
@[go_sem] theorem dyn_13_5:K.dyn 13 5=[]:=rfl
@[go_sem] theorem live_14_0:K.live 14 0=some ([0,1,7,8],[],[]):=rfl
@[go_sem] theorem out_14_0:K.out 14 0=some []:=rfl
@[go_sem] theorem live_14_1:K.live 14 1=none:=rfl
@[go_sem] theorem out_14_1:K.out 14 1=none:=rfl
@[go_sem] theorem live_21_0:K.live 21 0=some ([1,19,20,21],[],[]):=rfl
@[go_sem] theorem out_21_0:K.out 21 0=some [1]:=rfl
@[go_sem] theorem live_21_1:K.live 21 1=none:=rfl
@[go_sem] theorem out_21_1:K.out 21 1=none:=rfl
@[go_sem] theorem live_21_2:K.live 21 2=some ([1,49,50,51],[],[]):=rfl
@[go_sem] theorem out_21_2:K.out 21 2=some []:=rfl
@[go_sem] theorem live_21_3:K.live 21 3=none:=rfl
@[go_sem] theorem out_21_3:K.out 21 3=none:=rfl
@[go_sem] theorem live_21_4:K.live 21 4=some ([1,8,49,50,51,56,57,58],[],[]):=rfl
@[go_sem] theorem out_21_4:K.out 21 4=some [1,49,50,51]:=rfl
@[go_sem] theorem live_21_5:K.live 21 5=none:=rfl
@[go_sem] theorem out_21_5:K.out 21 5=none:=rfl
@[go_sem] theorem live_21_6:K.live 21 6=some ([1,8,10,11,49,50,51,56,57,58,84,85,86],[],[]):=rfl
@[go_sem] theorem out_21_6:K.out 21 6=some [1,8,49,50,51,56,57,58]:=rfl
@[go_sem] theorem live_21_7:K.live 21 7=none:=rfl
@[go_sem] theorem out_21_7:K.out 21 7=none:=rfl
@[go_sem] theorem dyn_21_6:K.dyn 21 6=[]:=rfl
@[go_sem] theorem dyn_21_22:K.dyn 21 22=[]:=rfl
@[go_sem] theorem dyn_21_27:K.dyn 21 27=[]:=rfl
@[go_sem] theorem live_22_0:K.live 22 0=some ([3,10,11,12],[(3,some 1,2,true)],[]):=rfl
@[go_sem] theorem out_22_0:K.out 22 0=some [3]:=rfl
@[go_sem] theorem live_22_1:K.live 22 1=none:=rfl
@[go_sem] theorem out_22_1:K.out 22 1=none:=rfl
@[go_sem] theorem dyn_22_5:K.dyn 22 5=[]:=rfl
@[go_sem] theorem dyn_23_1:K.dyn 23 1=[]:=rfl
@[go_sem] theorem live_24_0:K.live 24 0=some ([1,2,3,4,14,15,16],[(3,none,1,false)],[]):=rfl
@[go_sem] theorem out_24_0:K.out 24 0=some [1,2,3,4]:=rfl
@[go_sem] theorem live_24_1:K.live 24 1=none:=rfl
@[go_sem] theorem out_24_1:K.out 24 1=none:=rfl
@[go_sem] theorem live_24_2:K.live 24 2=some ([1,2,3,4,5,6,14,15,16,23,24],[(3,none,1,false)],[]):=rfl
@[go_sem] theorem out_24_2:K.out 24 2=some [1,2,3,4,14,15,16]:=rfl
@[go_sem] theorem live_24_3:K.live 24 3=none:=rfl
@[go_sem] theorem out_24_3:K.out 24 3=none:=rfl
@[go_sem] theorem live_24_4:K.live 24 4=some ([1,2,3,4],[],[]):=rfl
@[go_sem] theorem out_24_4:K.out 24 4=some [2,3]:=rfl
@[go_sem] theorem live_24_5:K.live 24 5=none:=rfl
@[go_sem] theorem out_24_5:K.out 24 5=none:=rfl
@[go_sem] theorem live_24_6:K.live 24 6=some ([1,2,3,4,69,70,71],[],[]):=rfl
@[go_sem] theorem out_24_6:K.out 24 6=some [1,2,3,4]:=rfl
@[go_sem] theorem live_24_7:K.live 24 7=none:=rfl
@[go_sem] theorem out_24_7:K.out 24 7=none:=rfl
@[go_sem] theorem live_26_0:K.live 26 0=some ([0,5,10,11,12],[(5,none,3,true)],[]):=rfl
@[go_sem] theorem out_26_0:K.out 26 0=some [5]:=rfl
@[go_sem] theorem live_26_1:K.live 26 1=none:=rfl
@[go_sem] theorem out_26_1:K.out 26 1=none:=rfl
@[go_sem] theorem live_27_0:K.live 27 0=some ([0,2,15,16,17],[],[]):=rfl
@[go_sem] theorem out_27_0:K.out 27 0=some [0,2]:=rfl
@[go_sem] theorem live_27_1:K.live 27 1=none:=rfl
@[go_sem] theorem out_27_1:K.out 27 1=none:=rfl
@[go_sem] theorem dyn_27_6:K.dyn 27 6=[]:=rfl
@[go_sem] theorem live_31_0:K.live 31 0=some ([0,2,3],[],[]):=rfl
@[go_sem] theorem out_31_0:K.out 31 0=some []:=rfl
@[go_sem] theorem live_31_1:K.live 31 1=none:=rfl
@[go_sem] theorem out_31_1:K.out 31 1=none:=rfl
@[go_sem] theorem dyn_31_3:K.dyn 31 3=[]:=rfl
@[go_sem] theorem live_32_0:K.live 32 0=none:=rfl
@[go_sem] theorem out_32_0:K.out 32 0=none:=rfl
@[go_sem] theorem live_34_0:K.live 34 0=some ([3,19,20,21],[],[]):=rfl
@[go_sem] theorem out_34_0:K.out 34 0=some []:=rfl
@[go_sem] theorem live_34_1:K.live 34 1=none:=rfl
@[go_sem] theorem out_34_1:K.out 34 1=none:=rfl
@[go_sem] theorem live_34_2:K.live 34 2=some ([3,6,19,20,21,39,40,41],[],[]):=rfl
@[go_sem] theorem out_34_2:K.out 34 2=some [3,19,20,21]:=rfl
@[go_sem] theorem live_34_3:K.live 34 3=none:=rfl
@[go_sem] theorem out_34_3:K.out 34 3=none:=rfl
@[go_sem] theorem live_34_4:K.live 34 4=some ([3,6,8,19,20,21,39,40,41,52,53,54],[],[]):=rfl
@[go_sem] theorem out_34_4:K.out 34 4=some [3,6,19,20,21,39,40,41]:=rfl
@[go_sem] theorem live_34_5:K.live 34 5=none:=rfl
@[go_sem] theorem out_34_5:K.out 34 5=none:=rfl
@[go_sem] theorem dyn_34_16:K.dyn 34 16=[]:=rfl
@[go_sem] theorem live_35_0:K.live 35 0=some ([0,1,4,29,30,31],[],[]):=rfl
@[go_sem] theorem out_35_0:K.out 35 0=some [0,1,4]:=rfl
@[go_sem] theorem live_35_1:K.live 35 1=none:=rfl
@[go_sem] theorem out_35_1:K.out 35 1=none:=rfl
@[go_sem] theorem live_35_2:K.live 35 2=some ([0,1,4,5,6,29,30,31,37,38,39],[],[]):=rfl
@[go_sem] theorem out_35_2:K.out 35 2=some [0,1,4,29,30,31]:=rfl
@[go_sem] theorem live_35_3:K.live 35 3=none:=rfl
@[go_sem] theorem out_35_3:K.out 35 3=none:=rfl
@[go_sem] theorem live_35_4:K.live 35 4=some ([0,1,4,70,71,72],[],[]):=rfl
@[go_sem] theorem out_35_4:K.out 35 4=some [0,1,4]:=rfl
@[go_sem] theorem live_35_5:K.live 35 5=none:=rfl
@[go_sem] theorem out_35_5:K.out 35 5=none:=rfl
@[go_sem] theorem live_35_6:K.live 35 6=some ([0,1,87,88,89],[],[]):=rfl
@[go_sem] theorem out_35_6:K.out 35 6=some []:=rfl
@[go_sem] theorem live_35_7:K.live 35 7=none:=rfl
@[go_sem] theorem out_35_7:K.out 35 7=none:=rfl
@[go_sem] theorem live_36_0:K.live 36 0=some ([2,3,4,23,24,25],[],[]):=rfl
@[go_sem] theorem out_36_0:K.out 36 0=some [2,3,4]:=rfl
@[go_sem] theorem live_36_1:K.live 36 1=none:=rfl
@[go_sem] theorem out_36_1:K.out 36 1=none:=rfl
@[go_sem] theorem live_36_2:K.live 36 2=some ([2,4,41,42,43],[],[]):=rfl
@[go_sem] theorem out_36_2:K.out 36 2=some []:=rfl
@[go_sem] theorem live_36_3:K.live 36 3=none:=rfl
@[go_sem] theorem out_36_3:K.out 36 3=none:=rfl
@[go_sem] theorem live_36_4:K.live 36 4=some ([2,4,9,10,41,42,43,61,62,63],[],[]):=rfl
@[go_sem] theorem out_36_4:K.out 36 4=some [2,4,9,10,41,42,43]:=rfl
@[go_sem] theorem live_36_5:K.live 36 5=none:=rfl
@[go_sem] theorem out_36_5:K.out 36 5=none:=rfl
@[go_sem] theorem dyn_36_6:K.dyn 36 6=[]:=rfl
@[go_sem] theorem dyn_36_22:K.dyn 36 22=[]:=rfl
@[go_sem] theorem live_38_0:K.live 38 0=some ([2,3,4,5,10,16,17,18],[],[]):=rfl
@[go_sem] theorem out_38_0:K.out 38 0=some []:=rfl
@[go_sem] theorem live_38_1:K.live 38 1=none:=rfl
@[go_sem] theorem out_38_1:K.out 38 1=none:=rfl
@[go_sem] theorem live_41_0:K.live 41 0=some ([1,3,8,9,13,14,15],[(8,none,3,true)],[]):=rfl
@[go_sem] theorem out_41_0:K.out 41 0=some [8,9]:=rfl
@[go_sem] theorem live_41_1:K.live 41 1=none:=rfl
@[go_sem] theorem out_41_1:K.out 41 1=none:=rfl
@[go_sem] theorem dyn_41_7:K.dyn 41 7=[]:=rfl
@[go_sem] theorem dyn_43_1:K.dyn 43 1=[]:=rfl
@[go_sem] theorem dyn_43_2:K.dyn 43 2=[]:=rfl
@[go_sem] theorem live_54_0:K.live 54 0=some ([0,1,5,9,10],[(5,none,1,true)],[]):=rfl
@[go_sem] theorem out_54_0:K.out 54 0=some [0,1,5]:=rfl
@[go_sem] theorem live_54_1:K.live 54 1=none:=rfl
@[go_sem] theorem out_54_1:K.out 54 1=none:=rfl
@[go_sem] theorem live_54_2:K.live 54 2=some ([0,5,7],[],[]):=rfl
@[go_sem] theorem out_54_2:K.out 54 2=some [5]:=rfl
@[go_sem] theorem live_54_3:K.live 54 3=none:=rfl
@[go_sem] theorem out_54_3:K.out 54 3=none:=rfl
@[go_sem] theorem dyn_54_11:K.dyn 54 11=[]:=rfl
@[go_sem] theorem live_56_0:K.live 56 0=some ([0,1,7,8],[],[]):=rfl
@[go_sem] theorem out_56_0:K.out 56 0=some []:=rfl
@[go_sem] theorem live_56_1:K.live 56 1=none:=rfl
@[go_sem] theorem out_56_1:K.out 56 1=none:=rfl
@[go_sem] theorem live_57_0:K.live 57 0=some ([0,1,7,8],[],[]):=rfl
@[go_sem] theorem out_57_0:K.out 57 0=some []:=rfl
@[go_sem] theorem live_57_1:K.live 57 1=none:=rfl
@[go_sem] theorem out_57_1:K.out 57 1=none:=rfl
@[go_sem] theorem live_59_0:K.live 59 0=none:=rfl
@[go_sem] theorem out_59_0:K.out 59 0=none:=rfl
@[go_sem] theorem live_60_0:K.live 60 0=some ([1,41,42,43],[],[]):=rfl
@[go_sem] theorem out_60_0:K.out 60 0=some [1]:=rfl
@[go_sem] theorem live_60_1:K.live 60 1=none:=rfl
@[go_sem] theorem out_60_1:K.out 60 1=none:=rfl
@[go_sem] theorem live_60_2:K.live 60 2=none:=rfl
@[go_sem] theorem out_60_2:K.out 60 2=none:=rfl
@[go_sem] theorem live_60_3:K.live 60 3=some ([1,77,78,79],[],[]):=rfl
@[go_sem] theorem out_60_3:K.out 60 3=some [1]:=rfl
@[go_sem] theorem live_60_4:K.live 60 4=none:=rfl
@[go_sem] theorem out_60_4:K.out 60 4=none:=rfl
@[go_sem] theorem live_60_5:K.live 60 5=none:=rfl
@[go_sem] theorem out_60_5:K.out 60 5=none:=rfl
@[go_sem] theorem live_60_6:K.live 60 6=some ([1,106,107,108],[],[]):=rfl
@[go_sem] theorem out_60_6:K.out 60 6=some [1]:=rfl
@[go_sem] theorem live_60_7:K.live 60 7=none:=rfl
@[go_sem] theorem out_60_7:K.out 60 7=none:=rfl
@[go_sem] theorem live_60_8:K.live 60 8=some ([1,138,139,140],[],[]):=rfl
@[go_sem] theorem out_60_8:K.out 60 8=some []:=rfl
@[go_sem] theorem live_60_9:K.live 60 9=none:=rfl
@[go_sem] theorem out_60_9:K.out 60 9=none:=rfl
@[go_sem] theorem live_60_10:K.live 60 10=none:=rfl
@[go_sem] theorem out_60_10:K.out 60 10=none:=rfl
@[go_sem] theorem dyn_60_8:K.dyn 60 8=[]:=rfl
@[go_sem] theorem dyn_60_30:K.dyn 60 30=[]:=rfl
@[go_sem] theorem dyn_60_40:K.dyn 60 40=[]:=rfl
@[go_sem] theorem live_62_0:K.live 62 0=some ([2,3,7,8,9],[(3,some 0,2,true)],[]):=rfl
@[go_sem] theorem out_62_0:K.out 62 0=some [2,3]:=rfl
@[go_sem] theorem live_62_1:K.live 62 1=none:=rfl
@[go_sem] theorem out_62_1:K.out 62 1=none:=rfl
@[go_sem] theorem dyn_62_5:K.dyn 62 5=[(6,13),(6,15),(8,13)]:=rfl
@[go_sem] theorem live_63_0:K.live 63 0=some ([1,3,4,18,19,20],[],[]):=rfl
@[go_sem] theorem out_63_0:K.out 63 0=some [3,4]:=rfl
@[go_sem] theorem live_63_1:K.live 63 1=none:=rfl
@[go_sem] theorem out_63_1:K.out 63 1=none:=rfl
@[go_sem] theorem live_63_2:K.live 63 2=some ([1,3,4,5,18,19,20,31,32,33],[],[]):=rfl
@[go_sem] theorem out_63_2:K.out 63 2=some [1,3,4,18,19,20]:=rfl
@[go_sem] theorem live_63_3:K.live 63 3=none:=rfl
@[go_sem] theorem out_63_3:K.out 63 3=none:=rfl
@[go_sem] theorem live_63_4:K.live 63 4=some ([3,4,48,49],[],[]):=rfl
@[go_sem] theorem out_63_4:K.out 63 4=some [4]:=rfl
@[go_sem] theorem live_63_5:K.live 63 5=none:=rfl
@[go_sem] theorem out_63_5:K.out 63 5=none:=rfl
@[go_sem] theorem live_63_6:K.live 63 6=some ([3,4,9,48,49,52,53],[],[]):=rfl
@[go_sem] theorem out_63_6:K.out 63 6=some [3,4,48,49]:=rfl
@[go_sem] theorem live_63_7:K.live 63 7=none:=rfl
@[go_sem] theorem out_63_7:K.out 63 7=none:=rfl
@[go_sem] theorem live_63_8:K.live 63 8=some ([3,4,9,10,48,49,52,53,56,57],[],[]):=rfl
@[go_sem] theorem out_63_8:K.out 63 8=some [3,4,9,48,49,52,53]:=rfl
@[go_sem] theorem live_63_9:K.live 63 9=none:=rfl
@[go_sem] theorem out_63_9:K.out 63 9=none:=rfl
@[go_sem] theorem dyn_63_10:K.dyn 63 10=[]:=rfl
@[go_sem] theorem dyn_63_22:K.dyn 63 22=[]:=rfl
@[go_sem] theorem dyn_65_2:K.dyn 65 2=[]:=rfl
@[go_sem] theorem live_67_0:K.live 67 0=none:=rfl
@[go_sem] theorem out_67_0:K.out 67 0=none:=rfl
@[go_sem] theorem live_70_0:K.live 70 0=none:=rfl
@[go_sem] theorem out_70_0:K.out 70 0=none:=rfl
@[go_sem] theorem live_71_0:K.live 71 0=some ([0,3,4,18,19],[],[]):=rfl
@[go_sem] theorem out_71_0:K.out 71 0=some [4]:=rfl
@[go_sem] theorem live_71_1:K.live 71 1=none:=rfl
@[go_sem] theorem out_71_1:K.out 71 1=none:=rfl
@[go_sem] theorem dyn_71_2:K.dyn 71 2=[(2,9),(7,7),(7,10)]:=rfl
@[go_sem] theorem live_73_0:K.live 73 0=some ([6,7,8],[],[]):=rfl
@[go_sem] theorem out_73_0:K.out 73 0=some []:=rfl
@[go_sem] theorem live_73_1:K.live 73 1=none:=rfl
@[go_sem] theorem out_73_1:K.out 73 1=none:=rfl
@[go_sem] theorem live_75_0:K.live 75 0=some ([1,7,8],[],[]):=rfl
@[go_sem] theorem out_75_0:K.out 75 0=some []:=rfl
@[go_sem] theorem live_75_1:K.live 75 1=none:=rfl
@[go_sem] theorem out_75_1:K.out 75 1=none:=rfl
@[go_sem] theorem dyn_80_1:K.dyn 80 1=[]:=rfl
@[go_sem] theorem live_82_0:K.live 82 0=some ([1,2,15,16,17],[],[]):=rfl
@[go_sem] theorem out_82_0:K.out 82 0=some []:=rfl
@[go_sem] theorem live_82_1:K.live 82 1=none:=rfl
@[go_sem] theorem out_82_1:K.out 82 1=none:=rfl
@[go_sem] theorem live_84_0:K.live 84 0=none:=rfl
@[go_sem] theorem out_84_0:K.out 84 0=none:=rfl
@[go_sem] theorem live_86_0:K.live 86 0=some ([0,1,3,4,10,11,33,34,35],[],[]):=rfl
@[go_sem] theorem out_86_0:K.out 86 0=some []:=rfl
@[go_sem] theorem live_86_1:K.live 86 1=none:=rfl
@[go_sem] theorem out_86_1:K.out 86 1=none:=rfl
@[go_sem] theorem live_87_0:K.live 87 0=some ([0,1,5,6,7,8,41,42,43],[],[]):=rfl
@[go_sem] theorem out_87_0:K.out 87 0=some [0,1,5,6,8]:=rfl
@[go_sem] theorem live_87_1:K.live 87 1=none:=rfl
@[go_sem] theorem out_87_1:K.out 87 1=none:=rfl
@[go_sem] theorem live_87_2:K.live 87 2=some ([0,5,6,8,80,81,82],[],[]):=rfl
@[go_sem] theorem out_87_2:K.out 87 2=some []:=rfl
@[go_sem] theorem live_87_3:K.live 87 3=none:=rfl
@[go_sem] theorem out_87_3:K.out 87 3=none:=rfl
@[go_sem] theorem dyn_87_1:K.dyn 87 1=[]:=rfl
@[go_sem] theorem dyn_87_6:K.dyn 87 6=[]:=rfl
@[go_sem] theorem live_88_0:K.live 88 0=some ([2,3,16,17,18],[],[]):=rfl
@[go_sem] theorem out_88_0:K.out 88 0=some []:=rfl
@[go_sem] theorem live_88_1:K.live 88 1=none:=rfl
@[go_sem] theorem out_88_1:K.out 88 1=none:=rfl
@[go_sem] theorem dyn_88_6:K.dyn 88 6=[]:=rfl
@[go_sem] theorem live_89_0:K.live 89 0=some ([1,2,5],[],[]):=rfl
@[go_sem] theorem out_89_0:K.out 89 0=some [1,2]:=rfl
@[go_sem] theorem live_89_1:K.live 89 1=none:=rfl
@[go_sem] theorem out_89_1:K.out 89 1=none:=rfl
@[go_sem] theorem live_89_2:K.live 89 2=none:=rfl
@[go_sem] theorem out_89_2:K.out 89 2=none:=rfl
@[go_sem] theorem dyn_89_4:K.dyn 89 4=[]:=rfl
@[go_sem] theorem dyn_89_5:K.dyn 89 5=[]:=rfl
@[go_sem] theorem live_90_0:K.live 90 0=some ([0,1,7,8],[],[]):=rfl
@[go_sem] theorem out_90_0:K.out 90 0=some []:=rfl
@[go_sem] theorem live_90_1:K.live 90 1=none:=rfl
@[go_sem] theorem out_90_1:K.out 90 1=none:=rfl
@[go_sem] theorem live_91_0:K.live 91 0=some ([3,7,8,9],[(3,none,1,false)],[]):=rfl
@[go_sem] theorem out_91_0:K.out 91 0=some [3]:=rfl
@[go_sem] theorem live_91_1:K.live 91 1=none:=rfl
@[go_sem] theorem out_91_1:K.out 91 1=none:=rfl
@[go_sem] theorem live_91_2:K.live 91 2=none:=rfl
@[go_sem] theorem out_91_2:K.out 91 2=none:=rfl
@[go_sem] theorem live_91_3:K.live 91 3=some ([3,5,6,7,8,9],[(3,none,1,false)],[]):=rfl
@[go_sem] theorem out_91_3:K.out 91 3=some [3,7,8,9]:=rfl
@[go_sem] theorem live_91_4:K.live 91 4=none:=rfl
@[go_sem] theorem out_91_4:K.out 91 4=none:=rfl
@[go_sem] theorem live_112_0:K.live 112 0=some ([1,2,7,8,9],[],[]):=rfl
@[go_sem] theorem out_112_0:K.out 112 0=some []:=rfl
@[go_sem] theorem live_112_1:K.live 112 1=none:=rfl
@[go_sem] theorem out_112_1:K.out 112 1=none:=rfl
@[go_sem] theorem live_114_0:K.live 114 0=some ([0,1,7,8],[],[]):=rfl
@[go_sem] theorem out_114_0:K.out 114 0=some []:=rfl
@[go_sem] theorem live_114_1:K.live 114 1=none:=rfl
@[go_sem] theorem out_114_1:K.out 114 1=none:=rfl
@[go_sem] theorem dyn_115_6:K.dyn 115 6=[(15,33),(15,34)]:=rfl
@[go_sem] theorem live_116_0:K.live 116 0=some ([0,6,37,38,39],[],[]):=rfl
@[go_sem] theorem out_116_0:K.out 116 0=some [0,6]:=rfl
@[go_sem] theorem live_116_1:K.live 116 1=none:=rfl
@[go_sem] theorem out_116_1:K.out 116 1=none:=rfl
@[go_sem] theorem live_116_2:K.live 116 2=some ([0,6,52,53,54],[],[]):=rfl
@[go_sem] theorem out_116_2:K.out 116 2=some [0,6]:=rfl
@[go_sem] theorem live_116_3:K.live 116 3=none:=rfl
@[go_sem] theorem out_116_3:K.out 116 3=none:=rfl
@[go_sem] theorem dyn_116_19:K.dyn 116 19=[(7,66)]:=rfl
@[go_sem] theorem dyn_116_23:K.dyn 116 23=[]:=rfl
@[go_sem] theorem live_117_0:K.live 117 0=none:=rfl
@[go_sem] theorem out_117_0:K.out 117 0=none:=rfl
@[go_sem] theorem live_125_0:K.live 125 0=none:=rfl
@[go_sem] theorem out_125_0:K.out 125 0=none:=rfl
@[go_sem] theorem live_137_0:K.live 137 0=none:=rfl
@[go_sem] theorem out_137_0:K.out 137 0=none:=rfl
@[go_sem] theorem dyn_140_1:K.dyn 140 1=[]:=rfl
@[go_sem] theorem live_143_0:K.live 143 0=none:=rfl
@[go_sem] theorem out_143_0:K.out 143 0=none:=rfl
@[go_sem] theorem live_144_0:K.live 144 0=none:=rfl
@[go_sem] theorem out_144_0:K.out 144 0=none:=rfl
@[go_sem] theorem live_144_1:K.live 144 1=some ([1,23,24],[],[]):=rfl
@[go_sem] theorem out_144_1:K.out 144 1=some []:=rfl
@[go_sem] theorem live_144_2:K.live 144 2=none:=rfl
@[go_sem] theorem out_144_2:K.out 144 2=none:=rfl
@[go_sem] theorem live_148_0:K.live 148 0=some ([1,2,14,15,16],[],[]):=rfl
@[go_sem] theorem out_148_0:K.out 148 0=some []:=rfl
@[go_sem] theorem live_148_1:K.live 148 1=none:=rfl
@[go_sem] theorem out_148_1:K.out 148 1=none:=rfl
@[go_sem] theorem live_148_2:K.live 148 2=some ([1,2,6,7,14,15,16,21,22,23],[],[]):=rfl
@[go_sem] theorem out_148_2:K.out 148 2=some [1,2,14,15,16]:=rfl
@[go_sem] theorem live_148_3:K.live 148 3=none:=rfl
@[go_sem] theorem out_148_3:K.out 148 3=none:=rfl
@[go_sem] theorem live_178_0:K.live 178 0=some ([0,1,12,13],[],[]):=rfl
@[go_sem] theorem out_178_0:K.out 178 0=some []:=rfl
@[go_sem] theorem live_178_1:K.live 178 1=none:=rfl
@[go_sem] theorem out_178_1:K.out 178 1=none:=rfl
@[go_sem] theorem dyn_178_6:K.dyn 178 6=[]:=rfl
@[go_sem] theorem live_179_0:K.live 179 0=some ([2,3,6,7,11,12,13],[(6,none,3,true)],[]):=rfl
@[go_sem] theorem out_179_0:K.out 179 0=some [6,7]:=rfl
@[go_sem] theorem live_179_1:K.live 179 1=none:=rfl
@[go_sem] theorem out_179_1:K.out 179 1=none:=rfl
@[go_sem] theorem live_183_0:K.live 183 0=some ([3,8,9,10],[(3,none,1,false)],[]):=rfl
@[go_sem] theorem out_183_0:K.out 183 0=some [3]:=rfl
@[go_sem] theorem live_183_1:K.live 183 1=none:=rfl
@[go_sem] theorem out_183_1:K.out 183 1=none:=rfl
@[go_sem] theorem live_183_2:K.live 183 2=none:=rfl
@[go_sem] theorem out_183_2:K.out 183 2=none:=rfl
@[go_sem] theorem live_183_3:K.live 183 3=some ([3,6,7,8,9,10],[(3,none,1,false)],[]):=rfl
@[go_sem] theorem out_183_3:K.out 183 3=some [3,8,9,10]:=rfl
@[go_sem] theorem live_183_4:K.live 183 4=none:=rfl
@[go_sem] theorem out_183_4:K.out 183 4=none:=rfl
@[go_sem] theorem live_189_0:K.live 189 0=none:=rfl
@[go_sem] theorem out_189_0:K.out 189 0=none:=rfl
@[go_sem] theorem live_190_0:K.live 190 0=some ([0,12,13,14],[],[]):=rfl
@[go_sem] theorem out_190_0:K.out 190 0=some []:=rfl
@[go_sem] theorem live_190_1:K.live 190 1=none:=rfl
@[go_sem] theorem out_190_1:K.out 190 1=none:=rfl
@[go_sem] theorem live_191_0:K.live 191 0=some ([0,23,24,25],[],[]):=rfl
@[go_sem] theorem out_191_0:K.out 191 0=some []:=rfl
@[go_sem] theorem live_191_1:K.live 191 1=none:=rfl
@[go_sem] theorem out_191_1:K.out 191 1=none:=rfl
@[go_sem] theorem live_191_2:K.live 191 2=some ([0,5,6,23,24,25,53,54,55],[],[]):=rfl
@[go_sem] theorem out_191_2:K.out 191 2=some [0,5,6,23,24,25]:=rfl
@[go_sem] theorem live_191_3:K.live 191 3=none:=rfl
@[go_sem] theorem out_191_3:K.out 191 3=none:=rfl
@[go_sem] theorem live_191_4:K.live 191 4=some ([0,5,6,10,23,24,25,53,54,55,60,61,62],[],[]):=rfl
@[go_sem] theorem out_191_4:K.out 191 4=some [0,5,6,23,24,25,53,54,55]:=rfl
@[go_sem] theorem live_191_5:K.live 191 5=none:=rfl
@[go_sem] theorem out_191_5:K.out 191 5=none:=rfl
@[go_sem] theorem live_191_6:K.live 191 6=some ([0,5,6,23,24,25,105,106,107],[],[]):=rfl
@[go_sem] theorem out_191_6:K.out 191 6=some [0,5,6,23,24,25]:=rfl
@[go_sem] theorem live_191_7:K.live 191 7=none:=rfl
@[go_sem] theorem out_191_7:K.out 191 7=none:=rfl
@[go_sem] theorem live_191_8:K.live 191 8=some ([0,5,6,23,24,25,137,138,139],[],[]):=rfl
@[go_sem] theorem out_191_8:K.out 191 8=some [0,23,24,25]:=rfl
@[go_sem] theorem live_191_9:K.live 191 9=none:=rfl
@[go_sem] theorem out_191_9:K.out 191 9=none:=rfl
@[go_sem] theorem dyn_191_5:K.dyn 191 5=[]:=rfl
@[go_sem] theorem dyn_191_13:K.dyn 191 13=[]:=rfl
@[go_sem] theorem dyn_191_18:K.dyn 191 18=[]:=rfl
@[go_sem] theorem dyn_191_24:K.dyn 191 24=[]:=rfl
@[go_sem] theorem dyn_191_31:K.dyn 191 31=[]:=rfl
@[go_sem] theorem live_192_0:K.live 192 0=some ([0,1,4,6,21,22,23],[],[]):=rfl
@[go_sem] theorem out_192_0:K.out 192 0=some [0,1,4]:=rfl
@[go_sem] theorem live_192_1:K.live 192 1=none:=rfl
@[go_sem] theorem out_192_1:K.out 192 1=none:=rfl
@[go_sem] theorem live_192_2:K.live 192 2=some ([0,1,4,10,47,48,49],[],[]):=rfl
@[go_sem] theorem out_192_2:K.out 192 2=some [0,1,4,10]:=rfl
@[go_sem] theorem live_192_3:K.live 192 3=none:=rfl
@[go_sem] theorem out_192_3:K.out 192 3=none:=rfl
@[go_sem] theorem live_192_4:K.live 192 4=some ([0,4,10,98,99,100],[],[]):=rfl
@[go_sem] theorem out_192_4:K.out 192 4=some [4,10]:=rfl
@[go_sem] theorem live_192_5:K.live 192 5=none:=rfl
@[go_sem] theorem out_192_5:K.out 192 5=none:=rfl
@[go_sem] theorem dyn_192_15:K.dyn 192 15=[]:=rfl
@[go_sem] theorem dyn_192_16:K.dyn 192 16=[(13,68),(13,69)]:=rfl
@[go_sem] theorem dyn_192_18:K.dyn 192 18=[(7,82)]:=rfl
@[go_sem] theorem dyn_192_26:K.dyn 192 26=[]:=rfl
@[go_sem] theorem dyn_192_28:K.dyn 192 28=[(13,114)]:=rfl
@[go_sem] theorem dyn_192_29:K.dyn 192 29=[(14,144)]:=rfl
@[go_sem] theorem live_193_0:K.live 193 0=some ([2,3,5,25,26,27],[],[]):=rfl
@[go_sem] theorem out_193_0:K.out 193 0=some [2,3,5]:=rfl
@[go_sem] theorem live_193_1:K.live 193 1=none:=rfl
@[go_sem] theorem out_193_1:K.out 193 1=none:=rfl
@[go_sem] theorem live_193_2:K.live 193 2=some ([2,3,5,6,7,25,26,27,41,42,43],[],[]):=rfl
@[go_sem] theorem out_193_2:K.out 193 2=some [2,3,5,25,26,27]:=rfl
@[go_sem] theorem live_193_3:K.live 193 3=none:=rfl
@[go_sem] theorem out_193_3:K.out 193 3=none:=rfl
@[go_sem] theorem live_193_4:K.live 193 4=some ([2,3,5,64,65,66],[],[]):=rfl
@[go_sem] theorem out_193_4:K.out 193 4=some []:=rfl
@[go_sem] theorem live_193_5:K.live 193 5=none:=rfl
@[go_sem] theorem out_193_5:K.out 193 5=none:=rfl
@[go_sem] theorem live_193_6:K.live 193 6=some ([2,3,5,12,13,64,65,66,72,73,74],[],[]):=rfl
@[go_sem] theorem out_193_6:K.out 193 6=some [2,3,5,64,65,66]:=rfl
@[go_sem] theorem live_193_7:K.live 193 7=none:=rfl
@[go_sem] theorem out_193_7:K.out 193 7=none:=rfl
@[go_sem] theorem live_193_8:K.live 193 8=some ([2,3,5,12,13,15,64,65,66,72,73,74,83,84,85],[],[]):=rfl
@[go_sem] theorem out_193_8:K.out 193 8=some [2,3,5,12,13,64,65,66,72,73,74]:=rfl
@[go_sem] theorem live_193_9:K.live 193 9=none:=rfl
@[go_sem] theorem out_193_9:K.out 193 9=none:=rfl
@[go_sem] theorem dyn_193_10:K.dyn 193 10=[]:=rfl
@[go_sem] theorem dyn_193_23:K.dyn 193 23=[]:=rfl
@[go_sem] theorem live_200_0:K.live 200 0=none:=rfl
@[go_sem] theorem out_200_0:K.out 200 0=none:=rfl
@[go_sem] theorem live_202_0:K.live 202 0=none:=rfl
@[go_sem] theorem out_202_0:K.out 202 0=none:=rfl
@[go_sem] theorem dyn_202_1:K.dyn 202 1=[]:=rfl
@[go_sem] theorem dyn_202_4:K.dyn 202 4=[]:=rfl
@[go_sem] theorem dyn_202_6:K.dyn 202 6=[(6,31)]:=rfl
@[go_sem] theorem live_206_0:K.live 206 0=some ([0,1,2,11,12,13],[],[]):=rfl
@[go_sem] theorem out_206_0:K.out 206 0=some [0,1]:=rfl
@[go_sem] theorem live_206_1:K.live 206 1=none:=rfl
@[go_sem] theorem out_206_1:K.out 206 1=none:=rfl
@[go_sem] theorem dyn_207_1:K.dyn 207 1=[]:=rfl
@[go_sem] theorem live_212_0:K.live 212 0=some ([0,1,8,9],[],[]):=rfl
@[go_sem] theorem out_212_0:K.out 212 0=some [0]:=rfl
@[go_sem] theorem live_212_1:K.live 212 1=none:=rfl
@[go_sem] theorem out_212_1:K.out 212 1=none:=rfl
@[go_sem] theorem live_248_0:K.live 248 0=some ([6,7,8],[],[]):=rfl
@[go_sem] theorem out_248_0:K.out 248 0=some []:=rfl
@[go_sem] theorem live_248_1:K.live 248 1=none:=rfl
@[go_sem] theorem out_248_1:K.out 248 1=none:=rfl
@[go_sem] theorem live_249_0:K.live 249 0=some ([1,2,15,16,17],[],[]):=rfl
@[go_sem] theorem out_249_0:K.out 249 0=some []:=rfl
@[go_sem] theorem live_249_1:K.live 249 1=none:=rfl
@[go_sem] theorem out_249_1:K.out 249 1=none:=rfl
@[go_sem] theorem dyn_249_6:K.dyn 249 6=[]:=rfl
@[go_sem] theorem dyn_251_5:K.dyn 251 5=[]:=rfl
@[go_sem] theorem live_276_0:K.live 276 0=some ([0,1,2,6,7,8],[],[]):=rfl
@[go_sem] theorem out_276_0:K.out 276 0=some [0,1,2,6,7]:=rfl
@[go_sem] theorem live_276_1:K.live 276 1=none:=rfl
@[go_sem] theorem out_276_1:K.out 276 1=none:=rfl
@[go_sem] theorem live_276_2:K.live 276 2=some ([0,1,2,6],[],[]):=rfl
@[go_sem] theorem out_276_2:K.out 276 2=some []:=rfl
@[go_sem] theorem live_276_3:K.live 276 3=none:=rfl
@[go_sem] theorem out_276_3:K.out 276 3=none:=rfl
@[go_sem] theorem live_276_4:K.live 276 4=some ([0,1,2,6,7,8],[],[]):=rfl
@[go_sem] theorem out_276_4:K.out 276 4=some [0,1,2,6,7]:=rfl
@[go_sem] theorem live_276_5:K.live 276 5=none:=rfl
@[go_sem] theorem out_276_5:K.out 276 5=none:=rfl
@[go_sem] theorem live_301_0:K.live 301 0=some ([0,1,2,3,8],[],[]):=rfl
@[go_sem] theorem out_301_0:K.out 301 0=some []:=rfl
@[go_sem] theorem live_301_1:K.live 301 1=none:=rfl
@[go_sem] theorem out_301_1:K.out 301 1=none:=rfl
@[go_sem] theorem live_301_2:K.live 301 2=some ([0,1,2,3,8,9],[],[]):=rfl
@[go_sem] theorem out_301_2:K.out 301 2=some [0,1,2,3,8]:=rfl
@[go_sem] theorem live_301_3:K.live 301 3=none:=rfl
@[go_sem] theorem out_301_3:K.out 301 3=none:=rfl
@[go_sem] theorem dyn_301_4:K.dyn 301 4=[(14,32)]:=rfl
@[go_sem] theorem dyn_301_6:K.dyn 301 6=[]:=rfl
@[go_sem] theorem live_302_0:K.live 302 0=some ([0,1,4,10,11],[],[]):=rfl
@[go_sem] theorem out_302_0:K.out 302 0=some [0,1,10]:=rfl
@[go_sem] theorem live_302_1:K.live 302 1=none:=rfl
@[go_sem] theorem out_302_1:K.out 302 1=none:=rfl
@[go_sem] theorem live_302_2:K.live 302 2=some ([0,10,13],[],[]):=rfl
@[go_sem] theorem out_302_2:K.out 302 2=some []:=rfl
@[go_sem] theorem live_302_3:K.live 302 3=none:=rfl
@[go_sem] theorem out_302_3:K.out 302 3=none:=rfl
@[go_sem] theorem live_302_4:K.live 302 4=some ([0,2,4,14,15],[],[]):=rfl
@[go_sem] theorem out_302_4:K.out 302 4=some [0,2,14]:=rfl
@[go_sem] theorem live_302_5:K.live 302 5=none:=rfl
@[go_sem] theorem out_302_5:K.out 302 5=none:=rfl
@[go_sem] theorem live_302_6:K.live 302 6=some ([0,14,17],[],[]):=rfl
@[go_sem] theorem out_302_6:K.out 302 6=some []:=rfl
@[go_sem] theorem live_302_7:K.live 302 7=none:=rfl
@[go_sem] theorem out_302_7:K.out 302 7=none:=rfl
@[go_sem] theorem live_302_8:K.live 302 8=some ([0,1,2,3,4,18,19,20,21,22],[],[]):=rfl
@[go_sem] theorem out_302_8:K.out 302 8=some [0,1,2,3,4,18,19,20]:=rfl
@[go_sem] theorem live_302_9:K.live 302 9=none:=rfl
@[go_sem] theorem out_302_9:K.out 302 9=none:=rfl
@[go_sem] theorem dyn_302_5:K.dyn 302 5=[(9,49)]:=rfl
@[go_sem] theorem dyn_302_11:K.dyn 302 11=[]:=rfl
@[go_sem] theorem dyn_302_17:K.dyn 302 17=[(9,101)]:=rfl
@[go_sem] theorem dyn_302_23:K.dyn 302 23=[]:=rfl
@[go_sem] theorem dyn_302_35:K.dyn 302 35=[(11,169)]:=rfl
@[go_sem] theorem live_318_0:K.live 318 0=some ([0,2,4,10,11],[],[]):=rfl
@[go_sem] theorem out_318_0:K.out 318 0=some [0,2,4,10]:=rfl
@[go_sem] theorem live_318_1:K.live 318 1=none:=rfl
@[go_sem] theorem out_318_1:K.out 318 1=none:=rfl
@[go_sem] theorem live_331_0:K.live 331 0=some ([0,1,2,3,10],[],[]):=rfl
@[go_sem] theorem out_331_0:K.out 331 0=some []:=rfl
@[go_sem] theorem live_331_1:K.live 331 1=none:=rfl
@[go_sem] theorem out_331_1:K.out 331 1=none:=rfl
@[go_sem] theorem dyn_331_3:K.dyn 331 3=[]:=rfl
theorem call_3:CallT 3 Tryz.f3:=fun _ _=>R_call rfl rfl (by decide +kernel) rfl Tryz.func3 rfl
@[go_sem] theorem ret_3 (k:Nat) (fr:Fr) (h:Heap):retOf K 3 k fr h=leaving 0 k h (resL Tryz.prog fr h [.tmp 2]):=ret_of Tryz.func3 rfl rfl
theorem call_4:CallT 4 Tryz.f4:=fun _ _=>R_call rfl rfl (by decide +kernel) rfl Tryz.func4 rfl
@[go_sem] theorem ret_4 (k:Nat) (fr:Fr) (h:Heap):retOf K 4 k fr h=leaving 0 k h (resL Tryz.prog fr h [.cell 2 28]):=ret_of Tryz.func4 rfl rfl
theorem call_5:CallT 5 Tryz.f5:=fun _ _=>R_call rfl rfl (by decide +kernel) rfl Tryz.func5 rfl
@[go_sem] theorem ret_5 (k:Nat) (fr:Fr) (h:Heap):retOf K 5 k fr h=leaving 0 k h (resL Tryz.prog fr h [.cell 6 32]):=ret_of Tryz.func5 rfl rfl
theorem call_6:CallT 6 Tryz.f6:=fun _ _=>R_call rfl rfl (by decide +kernel) rfl Tryz.func6 rfl
@[go_sem] theorem ret_6 (k:Nat) (fr:Fr) (h:Heap):retOf K 6 k fr h=leaving 0 k h (resL Tryz.prog fr h [.tmp 6]):=ret_of Tryz.func6 rfl rfl
theorem call_7:CallT 7 Tryz.f7:=fun _ _=>R_call rfl rfl (by decide +kernel) rfl Tryz.func7 rfl
@[go_sem] theorem ret_7 (k:Nat) (fr:Fr) (h:Heap):retOf K 7 k fr h=leaving 0 k h (resL Tryz.prog fr h [.cell 4 32]):=ret_of Tryz.func7 rfl rfl
theorem call_8:CallT 8 Tryz.f8:=fun _ _=>R_call rfl rfl (by decide +kernel) rfl Tryz.func8 rfl
@[go_sem] theorem ret_8 (k:Nat) (fr:Fr) (h:Heap):retOf K 8 k fr h=leaving 0 k h (resL Tryz.prog fr h [.tmp 4,.tmp 5]):=ret_of Tryz.func8 rfl rfl
theorem call_9:CallT 9 Tryz.f9:=fun _ _=>R_call rfl rfl (by decide +kernel) rfl Tryz.func9 rfl
@[go_sem] theorem ret_9 (k:Nat) (fr:Fr) (h:Heap):retOf K 9 k fr h=leaving 0 k h (resL Tryz.prog fr h [.tmp 4,.tmp 5]):=ret_of Tryz.func9 rfl rfl
theorem call_11:CallT 11 Tryz.f11:=fun _ _=>R_call rfl rfl (by decide +kernel) rfl Tryz.func11 rfl
@[go_sem] theorem ret_11 (k:Nat) (fr:Fr) (h:Heap):retOf K 11 k fr h=leaving 0 k h (resL Tryz.prog fr h [.tmp 4]):=ret_of Tryz.func11 rfl rfl
theorem call_12:CallT 12 Tryz.f12:=fun _ _=>R_call rfl rfl (by decide +kernel) rfl Tryz.func12 rfl
@[go_sem] theorem ret_12 (k:Nat) (fr:Fr) (h:Heap):retOf K 12 k fr h=leaving 0 k h (resL Tryz.prog fr h [.cell 4 50]):=ret_of Tryz.func12 rfl rfl
theorem call_13:CallT 13 Tryz.f13:=fun _ _=>R_call rfl rfl (by decide +kernel) rfl Tryz.func13 rfl
@[go_sem] theorem ret_13 (k:Nat) (fr:Fr) (h:Heap):retOf K 13 k fr h=leaving 0 k h (resL Tryz.prog fr h [.tmp 4]):=ret_of Tryz.func13 rfl rfl
theorem call_14:CallT 14 Tryz.f14:=fun _ _=>R_call rfl rfl (by decide +kernel) rfl Tryz.func14 rfl
@[go_sem] theorem ret_14 (k:Nat) (fr:Fr) (h:Heap):retOf K 14 k fr h=leaving 0 k h (resL Tryz.prog fr h [.tmp 4]):=ret_of Tryz.func14 rfl rfl
theorem call_15:CallT 15 Tryz.f15:=fun _ _=>R_call rfl rfl (by decide +kernel) rfl Tryz.func15 rfl
@[go_sem] theorem ret_15 (k:Nat) (fr:Fr) (h:Heap):retOf K 15 k fr h=leaving 0 k h (resL Tryz.prog fr h [.tmp 3]):=ret_of Tryz.func15 rfl rfl
theorem call_16:CallT 16 Tryz.f16:=fun _ _=>R_call rfl rfl (by decide +kernel) rfl Tryz.func16 rfl
@[go_sem] theorem ret_16 (k:Nat) (fr:Fr) (h:Heap):retOf K 16 k fr h=leaving 0 k h (resL Tryz.prog fr h [.tmp 4]):=ret_of Tryz.func16 rfl rfl
theorem call_17:CallT 17 Tryz.f17:=fun _ _=>R_call rfl rfl (by decide +kernel) rfl Tryz.func17 rfl
@[go_sem] theorem ret_17 (k:Nat) (fr:Fr) (h:Heap):retOf K 17 k fr h=leaving 0 k h (resL Tryz.prog fr h [.tmp 4]):=ret_of Tryz.func17 rfl rfl
theorem call_18 {args:List AV} {h:Heap} (hp:K.prim 18 args=none):R K (.call 18 args h)=R K (.run 18 h.length [.code (Tryz.f18.body.getD .skip)] (entry 0 args) h):=R_call hp rfl (by decide +kernel) rfl Tryz.func18 rfl
@[go_sem] theorem ret_18 (k:Nat) (fr:Fr) (h:Heap):retOf K 18 k fr h=leaving 1 k h (resL Tryz.prog fr h [.tmp 2]):=ret_of Tryz.func18 rfl rfl
theorem call_19:CallT 19 Tryz.f19:=fun _ _=>R_call rfl rfl (by decide +kernel) rfl Tryz.func19 rfl
@[go_sem] theorem ret_19 (k:Nat) (fr:Fr) (h:Heap):retOf K 19 k fr h=leaving 0 k h (resL Tryz.prog fr h [.tmp 4]):=ret_of Tryz.func19 rfl rfl
theorem call_20 {args:List AV} {h:Heap} (hp:K.prim 20 args=none):R K (.call 20 args h)=R K (.run 20 h.length [.code (Tryz.f20.body.getD .skip)] (entry 0 args) h):=R_call hp rfl (by decide +kernel) rfl Tryz.func20 rfl
@[go_sem] theorem ret_20 (k:Nat) (fr:Fr) (h:Heap):retOf K 20 k fr h=leaving 1 k h (resL Tryz.prog fr h [.tmp 2]):=ret_of Tryz.func20 rfl rfl
theorem call_21:CallT 21 Tryz.f21:=fun _ _=>R_call rfl rfl (by decide +kernel) rfl Tryz.func21 rfl
@[go_sem] theorem ret_21 (k:Nat) (fr:Fr) (h:Heap):retOf K 21 k fr h=leaving 0 k h (resL Tryz.prog fr h [.tmp 2]):=ret_of Tryz.func21 rfl rfl
theorem call_22:CallT 22 Tryz.f22:=fun _ _=>R_call rfl rfl (by decide +kernel) rfl Tryz.func22 rfl
@[go_sem] theorem ret_22 (k:Nat) (fr:Fr) (h:Heap):retOf K 22 k fr h=leaving 3 k h (resL Tryz.prog fr h [.tmp 2]):=ret_of Tryz.func22 rfl rfl
theorem call_23:CallT 23 Tryz.f23:=fun _ _=>R_call rfl rfl (by decide +kernel) rfl Tryz.func23 rfl
@[go_sem] theorem ret_23 (k:Nat) (fr:Fr) (h:Heap):retOf K 23 k fr h=leaving 3 k h (resL Tryz.prog fr h [.tmp 2]):=ret_of Tryz.func23 rfl rfl
theorem call_24:CallT 24 Tryz.f24:=fun _ _=>R_call rfl rfl (by decide +kernel) rfl Tryz.func24 rfl
@[go_sem] theorem ret_24 (k:Nat) (fr:Fr) (h:Heap):retOf K 24 k fr h=leaving 0 k h (resL Tryz.prog fr h [.cell 2 46,.tmp 3]):=ret_of Tryz.func24 rfl rfl
theorem call_25:CallT 25 Tryz.f25:=fun _ _=>R_call rfl rfl (by decide +kernel) rfl Tryz.func25 rfl
@[go_sem] theorem ret_25 (k:Nat) (fr:Fr) (h:Heap):retOf K 25 k fr h=leaving 0 k h (resL Tryz.prog fr h [.tmp 6]):=ret_of Tryz.func25 rfl rfl
theorem call_26:CallT 26 Tryz.f26:=fun _ _=>R_call rfl rfl (by decide +kernel) rfl Tryz.func26 rfl
@[go_sem] theorem ret_26 (k:Nat) (fr:Fr) (h:Heap):retOf K 26 k fr h=leaving 0 k h (resL Tryz.prog fr h [.tmp 4]):=ret_of Tryz.func26 rfl rfl
theorem call_27:CallT 27 Tryz.f27:=fun _ _=>R_call rfl rfl (by decide +kernel) rfl Tryz.func27 rfl
@[go_sem] theorem ret_27 (k:Nat) (fr:Fr) (h:Heap):retOf K 27 k fr h=leaving 0 k h (resL Tryz.prog fr h [.cell 2 32,.tmp 3]):=ret_of Tryz.func27 rfl rfl
theorem call_28 {args:List AV} {h:Heap} (hp:K.prim 28 args=none):R K (.call 28 args h)=R K (.run 28 h.length [.code (Tryz.f28.body.getD .skip)] (entry 0 args) h):=R_call hp rfl (by decide +kernel) rfl Tryz.func28 rfl
@[go_sem] theorem ret_28 (k:Nat) (fr:Fr) (h:Heap):retOf K 28 k fr h=leaving 1 k h (resL Tryz.prog fr h [.tmp 2]):=ret_of Tryz.func28 rfl rfl
theorem call_29 {args:List AV} {h:Heap} (hp:K.prim 29 args=none) (hh:K.primH 29 args h=none):R K (.call 29 args h)=R K (.run 29 h.length [.code (Tryz.f29.body.getD .skip)] (entry 0 args) h):=R_call hp hh (by decide +kernel) rfl Tryz.func29 rfl
@[go_sem] theorem ret_29 (k:Nat) (fr:Fr) (h:Heap):retOf K 29 k fr h=leaving 1 k h (resL Tryz.prog fr h [.tmp 2]):=ret_of Tryz.func29 rfl rfl
theorem call_30 {args:List AV} {h:Heap} (hp:K.prim 30 args=none) (hh:K.primH 30 args h=none):R K (.call 30 args h)=R K (.run 30 h.length [.code (Tryz.f30.body.getD .skip)] (entry 0 args) h):=R_call hp hh (by decide +kernel) rfl Tryz.func30 rfl
@[go_sem] theorem ret_30 (k:Nat) (fr:Fr) (h:Heap):retOf K 30 k fr h=leaving 1 k h (resL Tryz.prog fr h [.tmp 2]):=ret_of Tryz.func30 rfl rfl
theorem call_31:CallT 31 Tryz.f31:=fun _ _=>R_call rfl rfl (by decide +kernel) rfl Tryz.func31 rfl
@[go_sem] theorem ret_31 (k:Nat) (fr:Fr) (h:Heap):retOf K 31 k fr h=leaving 0 k h (resL Tryz.prog fr h []):=ret_of Tryz.func31 rfl rfl
theorem call_32:CallT 32 Tryz.f32:=fun _ _=>R_call rfl rfl (by decide +kernel) rfl Tryz.func32 rfl
@[go_sem] theorem ret_32 (k:Nat) (fr:Fr) (h:Heap):retOf K 32 k fr h=leaving 0 k h (resL Tryz.prog fr h [.cell 2 57]):=ret_of Tryz.func32 rfl rfl
theorem call_33:CallT 33 Tryz.f33:=fun _ _=>R_call rfl rfl (by decide +kernel) rfl Tryz.func33 rfl
@[go_sem] theorem ret_33 (k:Nat) (fr:Fr) (h:Heap):retOf K 33 k fr h=leaving 0 k h (resL Tryz.prog fr h [.tmp 2]):=ret_of Tryz.func33 rfl rfl
theorem call_34:CallT 34 Tryz.f34:=fun _ _=>R_call rfl rfl (by decide +kernel) rfl Tryz.func34 rfl
@[go_sem] theorem ret_34 (k:Nat) (fr:Fr) (h:Heap):retOf K 34 k fr h=leaving 0 k h (resL Tryz.prog fr h [.tmp 4]):=ret_of Tryz.func34 rfl rfl
theorem call_35:CallT 35 Tryz.f35:=fun _ _=>R_call rfl rfl (by decide +kernel) rfl Tryz.func35 rfl
@[go_sem] theorem ret_35 (k:Nat) (fr:Fr) (h:Heap):retOf K 35 k fr h=leaving 0 k h (resL Tryz.prog fr h []):=ret_of Tryz.func35 rfl rfl
theorem call_36:CallT 36 Tryz.f36:=fun _ _=>R_call rfl rfl (by decide +kernel) rfl Tryz.func36 rfl
@[go_sem] theorem ret_36 (k:Nat) (fr:Fr) (h:Heap):retOf K 36 k fr h=leaving 0 k h (resL Tryz.prog fr h [.tmp 6]):=ret_of Tryz.func36 rfl rfl
theorem call_37:CallT 37 Tryz.f37:=fun _ _=>R_call rfl rfl (by decide +kernel) rfl Tryz.func37 rfl
@[go_sem] theorem ret_37 (k:Nat) (fr:Fr) (h:Heap):retOf K 37 k fr h=leaving 0 k h (resL Tryz.prog fr h []):=ret_of Tryz.func37 rfl rfl
theorem call_38:CallT 38 Tryz.f38:=fun _ _=>R_call rfl rfl (by decide +kernel) rfl Tryz.func38 rfl
@[go_sem] theorem ret_38 (k:Nat) (fr:Fr) (h:Heap):retOf K 38 k fr h=leaving 0 k h (resL Tryz.prog fr h []):=ret_of Tryz.func38 rfl rfl
theorem call_39:CallT 39 Tryz.f39:=fun _ _=>R_call rfl rfl (by decide +kernel) rfl Tryz.func39 rfl
@[go_sem] theorem ret_39 (k:Nat) (fr:Fr) (h:Heap):retOf K 39 k fr h=leaving 0 k h (resL Tryz.prog fr h []):=ret_of Tryz.func39 rfl rfl
theorem call_40:CallT 40 Tryz.f40:=fun _ _=>R_call rfl rfl (by decide +kernel) rfl Tryz.func40 rfl
@[go_sem] theorem ret_40 (k:Nat) (fr:Fr) (h:Heap):retOf K 40 k fr h=leaving 0 k h (resL Tryz.prog fr h []):=ret_of Tryz.func40 rfl rfl
theorem call_41:CallT 41 Tryz.f41:=fun _ _=>R_call rfl rfl (by decide +kernel) rfl Tryz.func41 rfl
@[go_sem] theorem ret_41 (k:Nat) (fr:Fr) (h:Heap):retOf K 41 k fr h=leaving 0 k h (resL Tryz.prog fr h [.tmp 6,.tmp 7]):=ret_of Tryz.func41 rfl rfl
theorem call_42:CallT 42 Tryz.f42:=fun _ _=>R_call rfl rfl (by decide +kernel) rfl Tryz.func42 rfl
@[go_sem] theorem ret_42 (k:Nat) (fr:Fr) (h:Heap):retOf K 42 k fr h=leaving 0 k h (resL Tryz.prog fr h [.tmp 4]):=ret_of Tryz.func42 rfl rfl
theorem call_43:CallT 43 Tryz.f43:=fun _ _=>R_call rfl rfl (by decide +kernel) rfl Tryz.func43 rfl
@[go_sem] theorem ret_43 (k:Nat) (fr:Fr) (h:Heap):retOf K 43 k fr h=leaving 0 k h (resL Tryz.prog fr h [.tmp 5]):=ret_of Tryz.func43 rfl rfl
theorem call_44:CallT 44 Tryz.f44:=fun _ _=>R_call rfl rfl (by decide +kernel) rfl Tryz.func44 rfl
@[go_sem] theorem ret_44 (k:Nat) (fr:Fr) (h:Heap):retOf K 44 k fr h=leaving 0 k h (resL Tryz.prog fr h [.tmp 2]):=ret_of Tryz.func44 rfl rfl
theorem call_52:CallT 52 Tryz.f52:=fun _ _=>R_call rfl rfl (by decide +kernel) rfl Tryz.func52 rfl
@[go_sem] theorem ret_52 (k:Nat) (fr:Fr) (h:Heap):retOf K 52 k fr h=leaving 0 k h (resL Tryz.prog fr h [.tmp 4]):=ret_of Tryz.func52 rfl rfl
theorem call_53:CallT 53 Tryz.f53:=fun _ _=>R_call rfl rfl (by decide +kernel) rfl Tryz.func53 rfl
@[go_sem] theorem ret_53 (k:Nat) (fr:Fr) (h:Heap):retOf K 53 k fr h=leaving 0 k h (resL Tryz.prog fr h [.cell 4 59]):=ret_of Tryz.func53 rfl rfl
theorem call_54:CallT 54 Tryz.f54:=fun _ _=>R_call rfl rfl (by decide +kernel) rfl Tryz.func54 rfl
@[go_sem] theorem ret_54 (k:Nat) (fr:Fr) (h:Heap):retOf K 54 k fr h=leaving 0 k h (resL Tryz.prog fr h [.tmp 4]):=ret_of Tryz.func54 rfl rfl
theorem call_55:CallT 55 Tryz.f55:=fun _ _=>R_call rfl rfl (by decide +kernel) rfl Tryz.func55 rfl
@[go_sem] theorem ret_55 (k:Nat) (fr:Fr) (h:Heap):retOf K 55 k fr h=leaving 0 k h (resL Tryz.prog fr h [.tmp 4]):=ret_of Tryz.func55 rfl rfl
theorem call_56:CallT 56 Tryz.f56:=fun _ _=>R_call rfl rfl (by decide +kernel) rfl Tryz.func56 rfl
@[go_sem] theorem ret_56 (k:Nat) (fr:Fr) (h:Heap):retOf K 56 k fr h=leaving 0 k h (resL Tryz.prog fr h [.tmp 4]):=ret_of Tryz.func56 rfl rfl
theorem call_57:CallT 57 Tryz.f57:=fun _ _=>R_call rfl rfl (by decide +kernel) rfl Tryz.func57 rfl
@[go_sem] theorem ret_57 (k:Nat) (fr:Fr) (h:Heap):retOf K 57 k fr h=leaving 0 k h (resL Tryz.prog fr h [.tmp 4]):=ret_of Tryz.func57 rfl rfl
theorem call_58:CallT 58 Tryz.f58:=fun _ _=>R_call rfl rfl (by decide +kernel) rfl Tryz.func58 rfl
@[go_sem] theorem ret_58 (k:Nat) (fr:Fr) (h:Heap):retOf K 58 k fr h=leaving 0 k h (resL Tryz.prog fr h [.tmp 3]):=ret_of Tryz.func58 rfl rfl
theorem call_59:CallT 59 Tryz.f59:=fun _ _=>R_call rfl rfl (by decide +kernel) rfl Tryz.func59 rfl
@[go_sem] theorem ret_59 (k:Nat) (fr:Fr) (h:Heap):retOf K 59 k fr h=leaving 0 k h (resL Tryz.prog fr h [.tmp 6]):=ret_of Tryz.func59 rfl rfl
theorem call_60:CallT 60 Tryz.f60:=fun _ _=>R_call rfl rfl (by decide +kernel) rfl Tryz.func60 rfl
@[go_sem] theorem ret_60 (k:Nat) (fr:Fr) (h:Heap):retOf K 60 k fr h=leaving 0 k h (resL Tryz.prog fr h [.tmp 2]):=ret_of Tryz.func60 rfl rfl
theorem call_61:CallT 61 Tryz.f61:=fun _ _=>R_call rfl rfl (by decide +kernel) rfl Tryz.func61 rfl
@[go_sem] theorem ret_61 (k:Nat) (fr:Fr) (h:Heap):retOf K 61 k fr h=leaving 0 k h (resL Tryz.prog fr h [.tmp 4]):=ret_of Tryz.func61 rfl rfl
theorem call_62:CallT 62 Tryz.f62:=fun _ _=>R_call rfl rfl (by decide +kernel) rfl Tryz.func62 rfl
@[go_sem] theorem ret_62 (k:Nat) (fr:Fr) (h:Heap):retOf K 62 k fr h=leaving 3 k h (resL Tryz.prog fr h [.cell 2 32]):=ret_of Tryz.func62 rfl rfl
theorem call_63:CallT 63 Tryz.f63:=fun _ _=>R_call rfl rfl (by decide +kernel) rfl Tryz.func63 rfl
@[go_sem] theorem ret_63 (k:Nat) (fr:Fr) (h:Heap):retOf K 63 k fr h=leaving 0 k h (resL Tryz.prog fr h [.tmp 2]):=ret_of Tryz.func63 rfl rfl
theorem call_64:CallT 64 Tryz.f64:=fun _ _=>R_call rfl rfl (by decide +kernel) rfl Tryz.func64 rfl
@[go_sem] theorem ret_64 (k:Nat) (fr:Fr) (h:Heap):retOf K 64 k fr h=leaving 0 k h (resL Tryz.prog fr h [.tmp 4]):=ret_of Tryz.func64 rfl rfl
theorem call_65:CallT 65 Tryz.f65:=fun _ _=>R_call rfl rfl (by decide +kernel) rfl Tryz.func65 rfl
@[go_sem] theorem ret_65 (k:Nat) (fr:Fr) (h:Heap):retOf K 65 k fr h=leaving 0 k h (resL Tryz.prog fr h [.tmp 6]):=ret_of Tryz.func65 rfl rfl
theorem call_66:CallT 66 Tryz.f66:=fun _ _=>R_call rfl rfl (by decide +kernel) rfl Tryz.func66 rfl
@[go_sem] theorem ret_66 (k:Nat) (fr:Fr) (h:Heap):retOf K 66 k fr h=leaving 0 k h (resL Tryz.prog fr h [.tmp 4]):=ret_of Tryz.func66 rfl rfl
theorem call_67:CallT 67 Tryz.f67:=fun _ _=>R_call rfl rfl (by decide +kernel) rfl Tryz.func67 rfl
@[go_sem] theorem ret_67 (k:Nat) (fr:Fr) (h:Heap):retOf K 67 k fr h=leaving 0 k h (resL Tryz.prog fr h [.cell 4 57]):=ret_of Tryz.func67 rfl rfl
theorem call_68:CallT 68 Tryz.f68:=fun _ _=>R_call rfl rfl (by decide +kernel) rfl Tryz.func68 rfl
@[go_sem] theorem ret_68 (k:Nat) (fr:Fr) (h:Heap):retOf K 68 k fr h=leaving 0 k h (resL Tryz.prog fr h [.tmp 8]):=ret_of Tryz.func68 rfl rfl
theorem call_69:CallT 69 Tryz.f69:=fun _ _=>R_call rfl rfl (by decide +kernel) rfl Tryz.func69 rfl
@[go_sem] theorem ret_69 (k:Nat) (fr:Fr) (h:Heap):retOf K 69 k fr h=leaving 0 k h (resL Tryz.prog fr h [.cell 4 57]):=ret_of Tryz.func69 rfl rfl
theorem call_70:CallT 70 Tryz.f70:=fun _ _=>R_call rfl rfl (by decide +kernel) rfl Tryz.func70 rfl
@[go_sem] theorem ret_70 (k:Nat) (fr:Fr) (h:Heap):retOf K 70 k fr h=leaving 0 k h (resL Tryz.prog fr h [.tmp 2]):=ret_of Tryz.func70 rfl rfl
theorem call_71:CallT 71 Tryz.f71:=fun _ _=>R_call rfl rfl (by decide +kernel) rfl Tryz.func71 rfl
@[go_sem] theorem ret_71 (k:Nat) (fr:Fr) (h:Heap):retOf K 71 k fr h=leaving 0 k h (resL Tryz.prog fr h [.tmp 2]):=ret_of Tryz.func71 rfl rfl
theorem call_73:CallT 73 Tryz.f73:=fun _ _=>R_call rfl rfl (by decide +kernel) rfl Tryz.func73 rfl
@[go_sem] theorem ret_73 (k:Nat) (fr:Fr) (h:Heap):retOf K 73 k fr h=leaving 0 k h (resL Tryz.prog fr h [.tmp 2]):=ret_of Tryz.func73 rfl rfl
theorem call_74:CallT 74 Tryz.f74:=fun _ _=>R_call rfl rfl (by decide +kernel) rfl Tryz.func74 rfl
@[go_sem] theorem ret_74 (k:Nat) (fr:Fr) (h:Heap):retOf K 74 k fr h=leaving 0 k h (resL Tryz.prog fr h [.tmp 1]):=ret_of Tryz.func74 rfl rfl
theorem call_75:CallT 75 Tryz.f75:=fun _ _=>R_call rfl rfl (by decide +kernel) rfl Tryz.func75 rfl
@[go_sem] theorem ret_75 (k:Nat) (fr:Fr) (h:Heap):retOf K 75 k fr h=leaving 0 k h (resL Tryz.prog fr h [.tmp 4]):=ret_of Tryz.func75 rfl rfl
theorem call_76:CallT 76 Tryz.f76:=fun _ _=>R_call rfl rfl (by decide +kernel) rfl Tryz.func76 rfl
@[go_sem] theorem ret_76 (k:Nat) (fr:Fr) (h:Heap):retOf K 76 k fr h=leaving 0 k h (resL Tryz.prog fr h [.tmp 3]):=ret_of Tryz.func76 rfl rfl
theorem call_77:CallT 77 Tryz.f77:=fun _ _=>R_call rfl rfl (by decide +kernel) rfl Tryz.func77 rfl
@[go_sem] theorem ret_77 (k:Nat) (fr:Fr) (h:Heap):retOf K 77 k fr h=leaving 0 k h (resL Tryz.prog fr h [.tmp 4]):=ret_of Tryz.func77 rfl rfl
theorem call_78:CallT 78 Tryz.f78:=fun _ _=>R_call rfl rfl (by decide +kernel) rfl Tryz.func78 rfl
@[go_sem] theorem ret_78 (k:Nat) (fr:Fr) (h:Heap):retOf K 78 k fr h=leaving 0 k h (resL Tryz.prog fr h [.tmp 1]):=ret_of Tryz.func78 rfl rfl
theorem call_79:CallT 79 Tryz.f79:=fun _ _=>R_call rfl rfl (by decide +kernel) rfl Tryz.func79 rfl
@[go_sem] theorem ret_79 (k:Nat) (fr:Fr) (h:Heap):retOf K 79 k fr h=leaving 0 k h (resL Tryz.prog fr h [.tmp 3]):=ret_of Tryz.func79 rfl rfl
theorem call_80:CallT 80 Tryz.f80:=fun _ _=>R_call rfl rfl (by decide +kernel) rfl Tryz.func80 rfl
@[go_sem] theorem ret_80 (k:Nat) (fr:Fr) (h:Heap):retOf K 80 k fr h=leaving 0 k h (resL Tryz.prog fr h [.tmp 4]):=ret_of Tryz.func80 rfl rfl
theorem call_81:CallT 81 Tryz.f81:=fun _ _=>R_call rfl rfl (by decide +kernel) rfl Tryz.func81 rfl
@[go_sem] theorem ret_81 (k:Nat) (fr:Fr) (h:Heap):retOf K 81 k fr h=leaving 0 k h (resL Tryz.prog fr h [.tmp 6]):=ret_of Tryz.func81 rfl rfl
theorem call_82:CallT 82 Tryz.f82:=fun _ _=>R_call rfl rfl (by decide +kernel) rfl Tryz.func82 rfl
@[go_sem] theorem ret_82 (k:Nat) (fr:Fr) (h:Heap):retOf K 82 k fr h=leaving 0 k h (resL Tryz.prog fr h [.tmp 6]):=ret_of Tryz.func82 rfl rfl
theorem call_83:CallT 83 Tryz.f83:=fun _ _=>R_call rfl rfl (by decide +kernel) rfl Tryz.func83 rfl
@[go_sem] theorem ret_83 (k:Nat) (fr:Fr) (h:Heap):retOf K 83 k fr h=leaving 0 k h (resL Tryz.prog fr h [.tmp 4]):=ret_of Tryz.func83 rfl rfl
theorem call_84:CallT 84 Tryz.f84:=fun _ _=>R_call rfl rfl (by decide +kernel) rfl Tryz.func84 rfl
@[go_sem] theorem ret_84 (k:Nat) (fr:Fr) (h:Heap):retOf K 84 k fr h=leaving 0 k h (resL Tryz.prog fr h [.tmp 4]):=ret_of Tryz.func84 rfl rfl
theorem call_85:CallT 85 Tryz.f85:=fun _ _=>R_call rfl rfl (by decide +kernel) rfl Tryz.func85 rfl
@[go_sem] theorem ret_85 (k:Nat) (fr:Fr) (h:Heap):retOf K 85 k fr h=leaving 0 k h (resL Tryz.prog fr h []):=ret_of Tryz.func85 rfl rfl
theorem call_86:CallT 86 Tryz.f86:=fun _ _=>R_call rfl rfl (by decide +kernel) rfl Tryz.func86 rfl
@[go_sem] theorem ret_86 (k:Nat) (fr:Fr) (h:Heap):retOf K 86 k fr h=leaving 0 k h (resL Tryz.prog fr h []):=ret_of Tryz.func86 rfl rfl
theorem call_87:CallT 87 Tryz.f87:=fun _ _=>R_call rfl rfl (by decide +kernel) rfl Tryz.func87 rfl
@[go_sem] theorem ret_87 (k:Nat) (fr:Fr) (h:Heap):retOf K 87 k fr h=leaving 0 k h (resL Tryz.prog fr h []):=ret_of Tryz.func87 rfl rfl
theorem call_88:CallT 88 Tryz.f88:=fun _ _=>R_call rfl rfl (by decide +kernel) rfl Tryz.func88 rfl
@[go_sem] theorem ret_88 (k:Nat) (fr:Fr) (h:Heap):retOf K 88 k fr h=leaving 0 k h (resL Tryz.prog fr h [.tmp 6]):=ret_of Tryz.func88 rfl rfl
theorem call_89:CallT 89 Tryz.f89:=fun _ _=>R_call rfl rfl (by decide +kernel) rfl Tryz.func89 rfl
@[go_sem] theorem ret_89 (k:Nat) (fr:Fr) (h:Heap):retOf K 89 k fr h=leaving 0 k h (resL Tryz.prog fr h [.tmp 4]):=ret_of Tryz.func89 rfl rfl
theorem call_90:CallT 90 Tryz.f90:=fun _ _=>R_call rfl rfl (by decide +kernel) rfl Tryz.func90 rfl
@[go_sem] theorem ret_90 (k:Nat) (fr:Fr) (h:Heap):retOf K 90 k fr h=leaving 0 k h (resL Tryz.prog fr h [.tmp 4]):=ret_of Tryz.func90 rfl rfl
theorem call_91:CallT 91 Tryz.f91:=fun _ _=>R_call rfl rfl (by decide +kernel) rfl Tryz.func91 rfl
@[go_sem] theorem ret_91 (k:Nat) (fr:Fr) (h:Heap):retOf K 91 k fr h=leaving 0 k h (resL Tryz.prog fr h [.tmp 2]):=ret_of Tryz.func91 rfl rfl
theorem call_110:CallT 110 Tryz.f110:=fun _ _=>R_call rfl rfl (by decide +kernel) rfl Tryz.func110 rfl
@[go_sem] theorem ret_110 (k:Nat) (fr:Fr) (h:Heap):retOf K 110 k fr h=leaving 0 k h (resL Tryz.prog fr h [.tmp 4]):=ret_of Tryz.func110 rfl rfl
theorem call_111:CallT 111 Tryz.f111:=fun _ _=>R_call rfl rfl (by decide +kernel) rfl Tryz.func111 rfl
@[go_sem] theorem ret_111 (k:Nat) (fr:Fr) (h:Heap):retOf K 111 k fr h=leaving 0 k h (resL Tryz.prog fr h [.tmp 4]):=ret_of Tryz.func111 rfl rfl
theorem call_112:CallT 112 Tryz.f112:=fun _ _=>R_call rfl rfl (by decide +kernel) rfl Tryz.func112 rfl
@[go_sem] theorem ret_112 (k:Nat) (fr:Fr) (h:Heap):retOf K 112 k fr h=leaving 0 k h (resL Tryz.prog fr h [.tmp 4]):=ret_of Tryz.func112 rfl rfl
theorem call_113:CallT 113 Tryz.f113:=fun _ _=>R_call rfl rfl (by decide +kernel) rfl Tryz.func113 rfl
@[go_sem] theorem ret_113 (k:Nat) (fr:Fr) (h:Heap):retOf K 113 k fr h=leaving 0 k h (resL Tryz.prog fr h [.tmp 3]):=ret_of Tryz.func113 rfl rfl
theorem call_114:CallT 114 Tryz.f114:=fun _ _=>R_call rfl rfl (by decide +kernel) rfl Tryz.func114 rfl
@[go_sem] theorem ret_114 (k:Nat) (fr:Fr) (h:Heap):retOf K 114 k fr h=leaving 0 k h (resL Tryz.prog fr h [.tmp 4]):=ret_of Tryz.func114 rfl rfl
theorem call_115:CallT 115 Tryz.f115:=fun _ _=>R_call rfl rfl (by decide +kernel) rfl Tryz.func115 rfl
@[go_sem] theorem ret_115 (k:Nat) (fr:Fr) (h:Heap):retOf K 115 k fr h=leaving 0 k h (resL Tryz.prog fr h [.cell 4 50,.tmp 5,.tmp 6]):=ret_of Tryz.func115 rfl rfl
theorem call_116:CallT 116 Tryz.f116:=fun _ _=>R_call rfl rfl (by decide +kernel) rfl Tryz.func116 rfl
@[go_sem] theorem ret_116 (k:Nat) (fr:Fr) (h:Heap):retOf K 116 k fr h=leaving 0 k h (resL Tryz.prog fr h [.tmp 4]):=ret_of Tryz.func116 rfl rfl
theorem call_117:CallT 117 Tryz.f117:=fun _ _=>R_call rfl rfl (by decide +kernel) rfl Tryz.func117 rfl
@[go_sem] theorem ret_117 (k:Nat) (fr:Fr) (h:Heap):retOf K 117 k fr h=leaving 0 k h (resL Tryz.prog fr h [.cell 4 57]):=ret_of Tryz.func117 rfl rfl
theorem call_125:CallT 125 Tryz.f125:=fun _ _=>R_call rfl rfl (by decide +kernel) rfl Tryz.func125 rfl
@[go_sem] theorem ret_125 (k:Nat) (fr:Fr) (h:Heap):retOf K 125 k fr h=leaving 0 k h (resL Tryz.prog fr h [.tmp 6]):=ret_of Tryz.func125 rfl rfl
theorem call_126:CallT 126 Tryz.f126:=fun _ _=>R_call rfl rfl (by decide +kernel) rfl Tryz.func126 rfl
@[go_sem] theorem ret_126 (k:Nat) (fr:Fr) (h:Heap):retOf K 126 k fr h=leaving 0 k h (resL Tryz.prog fr h [.tmp 2]):=ret_of Tryz.func126 rfl rfl
theorem call_127:CallT 127 Tryz.f127:=fun _ _=>R_call rfl rfl (by decide +kernel) rfl Tryz.func127 rfl
@[go_sem] theorem ret_127 (k:Nat) (fr:Fr) (h:Heap):retOf K 127 k fr h=leaving 0 k h (resL Tryz.prog fr h [.tmp 1]):=ret_of Tryz.func127 rfl rfl
theorem call_128:CallT 128 Tryz.f128:=fun _ _=>R_call rfl rfl (by decide +kernel) rfl Tryz.func128 rfl
@[go_sem] theorem ret_128 (k:Nat) (fr:Fr) (h:Heap):retOf K 128 k fr h=leaving 0 k h (resL Tryz.prog fr h [.tmp 2]):=ret_of Tryz.func128 rfl rfl
theorem call_129:CallT 129 Tryz.f129:=fun _ _=>R_call rfl rfl (by decide +kernel) rfl Tryz.func129 rfl
@[go_sem] theorem ret_129 (k:Nat) (fr:Fr) (h:Heap):retOf K 129 k fr h=leaving 0 k h (resL Tryz.prog fr h [.tmp 1]):=ret_of Tryz.func129 rfl rfl
theorem call_130:CallT 130 Tryz.f130:=fun _ _=>R_call rfl rfl (by decide +kernel) rfl Tryz.func130 rfl
@[go_sem] theorem ret_130 (k:Nat) (fr:Fr) (h:Heap):retOf K 130 k fr h=leaving 0 k h (resL Tryz.prog fr h [.tmp 6]):=ret_of Tryz.func130 rfl rfl
theorem call_131:CallT 131 Tryz.f131:=fun _ _=>R_call rfl rfl (by decide +kernel) rfl Tryz.func131 rfl
@[go_sem] theorem ret_131 (k:Nat) (fr:Fr) (h:Heap):retOf K 131 k fr h=leaving 0 k h (resL Tryz.prog fr h [.tmp 2]):=ret_of Tryz.func131 rfl rfl
theorem call_132:CallT 132 Tryz.f132:=fun _ _=>R_call rfl rfl (by decide +kernel) rfl Tryz.func132 rfl
@[go_sem] theorem ret_132 (k:Nat) (fr:Fr) (h:Heap):retOf K 132 k fr h=leaving 0 k h (resL Tryz.prog fr h [.tmp 1]):=ret_of Tryz.func132 rfl rfl
theorem call_133:CallT 133 Tryz.f133:=fun _ _=>R_call rfl rfl (by decide +kernel) rfl Tryz.func133 rfl
@[go_sem] theorem ret_133 (k:Nat) (fr:Fr) (h:Heap):retOf K 133 k fr h=leaving 0 k h (resL Tryz.prog fr h [.tmp 3]):=ret_of Tryz.func133 rfl rfl
theorem call_134:CallT 134 Tryz.f134:=fun _ _=>R_call rfl rfl (by decide +kernel) rfl Tryz.func134 rfl
@[go_sem] theorem ret_134 (k:Nat) (fr:Fr) (h:Heap):retOf K 134 k fr h=leaving 0 k h (resL Tryz.prog fr h [.tmp 2]):=ret_of Tryz.func134 rfl rfl
theorem call_135:CallT 135 Tryz.f135:=fun _ _=>R_call rfl rfl (by decide +kernel) rfl Tryz.func135 rfl
@[go_sem] theorem ret_135 (k:Nat) (fr:Fr) (h:Heap):retOf K 135 k fr h=leaving 0 k h (resL Tryz.prog fr h [.tmp 2]):=ret_of Tryz.func135 rfl rfl
theorem call_136:CallT 136 Tryz.f136:=fun _ _=>R_call rfl rfl (by decide +kernel) rfl Tryz.func136 rfl
@[go_sem] theorem ret_136 (k:Nat) (fr:Fr) (h:Heap):retOf K 136 k fr h=leaving 0 k h (resL Tryz.prog fr h [.tmp 1]):=ret_of Tryz.func136 rfl rfl
theorem call_137:CallT 137 Tryz.f137:=fun _ _=>R_call rfl rfl (by decide +kernel) rfl Tryz.func137 rfl
@[go_sem] theorem ret_137 (k:Nat) (fr:Fr) (h:Heap):retOf K 137 k fr h=leaving 0 k h (resL Tryz.prog fr h [.tmp 3]):=ret_of Tryz.func137 rfl rfl
theorem call_138:CallT 138 Tryz.f138:=fun _ _=>R_call rfl rfl (by decide +kernel) rfl Tryz.func138 rfl
@[go_sem] theorem ret_138 (k:Nat) (fr:Fr) (h:Heap):retOf K 138 k fr h=leaving 0 k h (resL Tryz.prog fr h [.tmp 2]):=ret_of Tryz.func138 rfl rfl
theorem call_139:CallT 139 Tryz.f139:=fun _ _=>R_call rfl rfl (by decide +kernel) rfl Tryz.func139 rfl
@[go_sem] theorem ret_139 (k:Nat) (fr:Fr) (h:Heap):retOf K 139 k fr h=leaving 0 k h (resL Tryz.prog fr h [.tmp 4]):=ret_of Tryz.func139 rfl rfl
theorem call_140:CallT 140 Tryz.f140:=fun _ _=>R_call rfl rfl (by decide +kernel) rfl Tryz.func140 rfl
@[go_sem] theorem ret_140 (k:Nat) (fr:Fr) (h:Heap):retOf K 140 k fr h=leaving 0 k h (resL Tryz.prog fr h [.tmp 5]):=ret_of Tryz.func140 rfl rfl
theorem call_141:CallT 141 Tryz.f141:=fun _ _=>R_call rfl rfl (by decide +kernel) rfl Tryz.func141 rfl
@[go_sem] theorem ret_141 (k:Nat) (fr:Fr) (h:Heap):retOf K 141 k fr h=leaving 0 k h (resL Tryz.prog fr h [.tmp 4]):=ret_of Tryz.func141 rfl rfl
theorem call_142:CallT 142 Tryz.f142:=fun _ _=>R_call rfl rfl (by decide +kernel) rfl Tryz.func142 rfl
@[go_sem] theorem ret_142 (k:Nat) (fr:Fr) (h:Heap):retOf K 142 k fr h=leaving 0 k h (resL Tryz.prog fr h [.tmp 6]):=ret_of Tryz.func142 rfl rfl
theorem call_143:CallT 143 Tryz.f143:=fun _ _=>R_call rfl rfl (by decide +kernel) rfl Tryz.func143 rfl
@[go_sem] theorem ret_143 (k:Nat) (fr:Fr) (h:Heap):retOf K 143 k fr h=leaving 0 k h (resL Tryz.prog fr h [.tmp 2]):=ret_of Tryz.func143 rfl rfl
theorem call_144:CallT 144 Tryz.f144:=fun _ _=>R_call rfl rfl (by decide +kernel) rfl Tryz.func144 rfl
@[go_sem] theorem ret_144 (k:Nat) (fr:Fr) (h:Heap):retOf K 144 k fr h=leaving 0 k h (resL Tryz.prog fr h [.tmp 2]):=ret_of Tryz.func144 rfl rfl
theorem call_145:CallT 145 Tryz.f145:=fun _ _=>R_call rfl rfl (by decide +kernel) rfl Tryz.func145 rfl
@[go_sem] theorem ret_145 (k:Nat) (fr:Fr) (h:Heap):retOf K 145 k fr h=leaving 0 k h (resL Tryz.prog fr h [.tmp 6,.tmp 7]):=ret_of Tryz.func145 rfl rfl
theorem call_146:CallT 146 Tryz.f146:=fun _ _=>R_call rfl rfl (by decide +kernel) rfl Tryz.func146 rfl
@[go_sem] theorem ret_146 (k:Nat) (fr:Fr) (h:Heap):retOf K 146 k fr h=leaving 0 k h (resL Tryz.prog fr h [.tmp 4]):=ret_of Tryz.func146 rfl rfl
theorem call_147:CallT 147 Tryz.f147:=fun _ _=>R_call rfl rfl (by decide +kernel) rfl Tryz.func147 rfl
@[go_sem] theorem ret_147 (k:Nat) (fr:Fr) (h:Heap):retOf K 147 k fr h=leaving 0 k h (resL Tryz.prog fr h [.tmp 4]):=ret_of Tryz.func147 rfl rfl
theorem call_148:CallT 148 Tryz.f148:=fun _ _=>R_call rfl rfl (by decide +kernel) rfl Tryz.func148 rfl
@[go_sem] theorem ret_148 (k:Nat) (fr:Fr) (h:Heap):retOf K 148 k fr h=leaving 0 k h (resL Tryz.prog fr h [.tmp 4]):=ret_of Tryz.func148 rfl rfl
theorem call_149:CallT 149 Tryz.f149:=fun _ _=>R_call rfl rfl (by decide +kernel) rfl Tryz.func149 rfl
@[go_sem] theorem ret_149 (k:Nat) (fr:Fr) (h:Heap):retOf K 149 k fr h=leaving 0 k h (resL Tryz.prog fr h [.cell 2 57]):=ret_of Tryz.func149 rfl rfl
theorem call_178:CallT 178 Tryz.f178:=fun _ _=>R_call rfl rfl (by decide +kernel) rfl Tryz.func178 rfl
@[go_sem] theorem ret_178 (k:Nat) (fr:Fr) (h:Heap):retOf K 178 k fr h=leaving 0 k h (resL Tryz.prog fr h [.tmp 4]):=ret_of Tryz.func178 rfl rfl
theorem call_179:CallT 179 Tryz.f179:=fun _ _=>R_call rfl rfl (by decide +kernel) rfl Tryz.func179 rfl
@[go_sem] theorem ret_179 (k:Nat) (fr:Fr) (h:Heap):retOf K 179 k fr h=leaving 0 k h (resL Tryz.prog fr h [.tmp 6,.tmp 7]):=ret_of Tryz.func179 rfl rfl
theorem call_183:CallT 183 Tryz.f183:=fun _ _=>R_call rfl rfl (by decide +kernel) rfl Tryz.func183 rfl
@[go_sem] theorem ret_183 (k:Nat) (fr:Fr) (h:Heap):retOf K 183 k fr h=leaving 0 k h (resL Tryz.prog fr h [.tmp 2]):=ret_of Tryz.func183 rfl rfl
theorem call_187:CallT 187 Tryz.f187:=fun _ _=>R_call rfl rfl (by decide +kernel) rfl Tryz.func187 rfl
@[go_sem] theorem ret_187 (k:Nat) (fr:Fr) (h:Heap):retOf K 187 k fr h=leaving 0 k h (resL Tryz.prog fr h [.tmp 6]):=ret_of Tryz.func187 rfl rfl
theorem call_189:CallT 189 Tryz.f189:=fun _ _=>R_call rfl rfl (by decide +kernel) rfl Tryz.func189 rfl
@[go_sem] theorem ret_189 (k:Nat) (fr:Fr) (h:Heap):retOf K 189 k fr h=leaving 0 k h (resL Tryz.prog fr h [.tmp 4]):=ret_of Tryz.func189 rfl rfl
theorem call_190:CallT 190 Tryz.f190:=fun _ _=>R_call rfl rfl (by decide +kernel) rfl Tryz.func190 rfl
@[go_sem] theorem ret_190 (k:Nat) (fr:Fr) (h:Heap):retOf K 190 k fr h=leaving 0 k h (resL Tryz.prog fr h [.tmp 4]):=ret_of Tryz.func190 rfl rfl
theorem call_191:CallT 191 Tryz.f191:=fun _ _=>R_call rfl rfl (by decide +kernel) rfl Tryz.func191 rfl
@[go_sem] theorem ret_191 (k:Nat) (fr:Fr) (h:Heap):retOf K 191 k fr h=leaving 0 k h (resL Tryz.prog fr h []):=ret_of Tryz.func191 rfl rfl
theorem call_192:CallT 192 Tryz.f192:=fun _ _=>R_call rfl rfl (by decide +kernel) rfl Tryz.func192 rfl
@[go_sem] theorem ret_192 (k:Nat) (fr:Fr) (h:Heap):retOf K 192 k fr h=leaving 0 k h (resL Tryz.prog fr h [.cell 4 32,.tmp 5]):=ret_of Tryz.func192 rfl rfl
theorem call_193:CallT 193 Tryz.f193:=fun _ _=>R_call rfl rfl (by decide +kernel) rfl Tryz.func193 rfl
@[go_sem] theorem ret_193 (k:Nat) (fr:Fr) (h:Heap):retOf K 193 k fr h=leaving 0 k h (resL Tryz.prog fr h [.tmp 4]):=ret_of Tryz.func193 rfl rfl
theorem call_199:CallT 199 Tryz.f199:=fun _ _=>R_call rfl rfl (by decide +kernel) rfl Tryz.func199 rfl
@[go_sem] theorem ret_199 (k:Nat) (fr:Fr) (h:Heap):retOf K 199 k fr h=leaving 0 k h (resL Tryz.prog fr h [.tmp 2]):=ret_of Tryz.func199 rfl rfl
theorem call_200:CallT 200 Tryz.f200:=fun _ _=>R_call rfl rfl (by decide +kernel) rfl Tryz.func200 rfl
@[go_sem] theorem ret_200 (k:Nat) (fr:Fr) (h:Heap):retOf K 200 k fr h=leaving 0 k h (resL Tryz.prog fr h [.tmp 3]):=ret_of Tryz.func200 rfl rfl
theorem call_201:CallT 201 Tryz.f201:=fun _ _=>R_call rfl rfl (by decide +kernel) rfl Tryz.func201 rfl
@[go_sem] theorem ret_201 (k:Nat) (fr:Fr) (h:Heap):retOf K 201 k fr h=leaving 0 k h (resL Tryz.prog fr h [.tmp 6]):=ret_of Tryz.func201 rfl rfl
theorem call_202:CallT 202 Tryz.f202:=fun _ _=>R_call rfl rfl (by decide +kernel) rfl Tryz.func202 rfl
@[go_sem] theorem ret_202 (k:Nat) (fr:Fr) (h:Heap):retOf K 202 k fr h=leaving 0 k h (resL Tryz.prog fr h [.tmp 5]):=ret_of Tryz.func202 rfl rfl
theorem call_203:CallT 203 Tryz.f203:=fun _ _=>R_call rfl rfl (by decide +kernel) rfl Tryz.func203 rfl
@[go_sem] theorem ret_203 (k:Nat) (fr:Fr) (h:Heap):retOf K 203 k fr h=leaving 0 k h (resL Tryz.prog fr h [.tmp 3]):=ret_of Tryz.func203 rfl rfl
theorem call_204:CallT 204 Tryz.f204:=fun _ _=>R_call rfl rfl (by decide +kernel) rfl Tryz.func204 rfl
@[go_sem] theorem ret_204 (k:Nat) (fr:Fr) (h:Heap):retOf K 204 k fr h=leaving 0 k h (resL Tryz.prog fr h [.tmp 3]):=ret_of Tryz.func204 rfl rfl
theorem call_205:CallT 205 Tryz.f205:=fun _ _=>R_call rfl rfl (by decide +kernel) rfl Tryz.func205 rfl
@[go_sem] theorem ret_205 (k:Nat) (fr:Fr) (h:Heap):retOf K 205 k fr h=leaving 0 k h (resL Tryz.prog fr h [.tmp 3]):=ret_of Tryz.func205 rfl rfl
theorem call_206:CallT 206 Tryz.f206:=fun _ _=>R_call rfl rfl (by decide +kernel) rfl Tryz.func206 rfl
@[go_sem] theorem ret_206 (k:Nat) (fr:Fr) (h:Heap):retOf K 206 k fr h=leaving 0 k h (resL Tryz.prog fr h [.tmp 6]):=ret_of Tryz.func206 rfl rfl
theorem call_207:CallT 207 Tryz.f207:=fun _ _=>R_call rfl rfl (by decide +kernel) rfl Tryz.func207 rfl
@[go_sem] theorem ret_207 (k:Nat) (fr:Fr) (h:Heap):retOf K 207 k fr h=leaving 0 k h (resL Tryz.prog fr h [.tmp 4]):=ret_of Tryz.func207 rfl rfl
theorem call_208:CallT 208 Tryz.f208:=fun _ _=>R_call rfl rfl (by decide +kernel) rfl Tryz.func208 rfl
@[go_sem] theorem ret_208 (k:Nat) (fr:Fr) (h:Heap):retOf K 208 k fr h=leaving 0 k h (resL Tryz.prog fr h [.tmp 2]):=ret_of Tryz.func208 rfl rfl
theorem call_212:CallT 212 Tryz.f212:=fun _ _=>R_call rfl rfl (by decide +kernel) rfl Tryz.func212 rfl
@[go_sem] theorem ret_212 (k:Nat) (fr:Fr) (h:Heap):retOf K 212 k fr h=leaving 0 k h (resL Tryz.prog fr h [.tmp 4]):=ret_of Tryz.func212 rfl rfl
theorem call_232:CallT 232 Tryz.f232:=fun _ _=>R_call rfl rfl (by decide +kernel) rfl Tryz.func232 rfl
@[go_sem] theorem ret_232 (k:Nat) (fr:Fr) (h:Heap):retOf K 232 k fr h=leaving 0 k h (resL Tryz.prog fr h [.tmp 4]):=ret_of Tryz.func232 rfl rfl
theorem call_238:CallT 238 Tryz.f238:=fun _ _=>R_call rfl rfl (by decide +kernel) rfl Tryz.func238 rfl
@[go_sem] theorem ret_238 (k:Nat) (fr:Fr) (h:Heap):retOf K 238 k fr h=leaving 0 k h (resL Tryz.prog fr h [.cell 2 57]):=ret_of Tryz.func238 rfl rfl
theorem call_239:CallT 239 Tryz.f239:=fun _ _=>R_call rfl rfl (by decide +kernel) rfl Tryz.func239 rfl
@[go_sem] theorem ret_239 (k:Nat) (fr:Fr) (h:Heap):retOf K 239 k fr h=leaving 0 k h (resL Tryz.prog fr h []):=ret_of Tryz.func239 rfl rfl
theorem call_248:CallT 248 Tryz.f248:=fun _ _=>R_call rfl rfl (by decide +kernel) rfl Tryz.func248 rfl
@[go_sem] theorem ret_248 (k:Nat) (fr:Fr) (h:Heap):retOf K 248 k fr h=leaving 0 k h (resL Tryz.prog fr h [.tmp 2]):=ret_of Tryz.func248 rfl rfl
theorem call_249:CallT 249 Tryz.f249:=fun _ _=>R_call rfl rfl (by decide +kernel) rfl Tryz.func249 rfl
@[go_sem] theorem ret_249 (k:Nat) (fr:Fr) (h:Heap):retOf K 249 k fr h=leaving 0 k h (resL Tryz.prog fr h [.tmp 4]):=ret_of Tryz.func249 rfl rfl
theorem call_250:CallT 250 Tryz.f250:=fun _ _=>R_call rfl rfl (by decide +kernel) rfl Tryz.func250 rfl
@[go_sem] theorem ret_250 (k:Nat) (fr:Fr) (h:Heap):retOf K 250 k fr h=leaving 0 k h (resL Tryz.prog fr h [.tmp 6]):=ret_of Tryz.func250 rfl rfl
theorem call_251:CallT 251 Tryz.f251:=fun _ _=>R_call rfl rfl (by decide +kernel) rfl Tryz.func251 rfl
@[go_sem] theorem ret_251 (k:Nat) (fr:Fr) (h:Heap):retOf K 251 k fr h=leaving 0 k h (resL Tryz.prog fr h [.tmp 6]):=ret_of Tryz.func251 rfl rfl
theorem call_252:CallT 252 Tryz.f252:=fun _ _=>R_call rfl rfl (by decide +kernel) rfl Tryz.func252 rfl
@[go_sem] theorem ret_252 (k:Nat) (fr:Fr) (h:Heap):retOf K 252 k fr h=leaving 0 k h (resL Tryz.prog fr h []):=ret_of Tryz.func252 rfl rfl
theorem call_255:CallT 255 Tryz.f255:=fun _ _=>R_call rfl rfl (by decide +kernel) rfl Tryz.func255 rfl
@[go_sem] theorem ret_255 (k:Nat) (fr:Fr) (h:Heap):retOf K 255 k fr h=leaving 0 k h (resL Tryz.prog fr h [.tmp 2]):=ret_of Tryz.func255 rfl rfl
theorem call_256:CallT 256 Tryz.f256:=fun _ _=>R_call rfl rfl (by decide +kernel) rfl Tryz.func256 rfl
@[go_sem] theorem ret_256 (k:Nat) (fr:Fr) (h:Heap):retOf K 256 k fr h=leaving 0 k h (resL Tryz.prog fr h [.tmp 2]):=ret_of Tryz.func256 rfl rfl
theorem call_272:CallT 272 Tryz.f272:=fun _ _=>R_call rfl rfl (by decide +kernel) rfl Tryz.func272 rfl
@[go_sem] theorem ret_272 (k:Nat) (fr:Fr) (h:Heap):retOf K 272 k fr h=leaving 0 k h (resL Tryz.prog fr h [.tmp 3]):=ret_of Tryz.func272 rfl rfl
theorem call_275:CallT 275 Tryz.f275:=fun _ _=>R_call rfl rfl (by decide +kernel) rfl Tryz.func275 rfl
@[go_sem] theorem ret_275 (k:Nat) (fr:Fr) (h:Heap):retOf K 275 k fr h=leaving 0 k h (resL Tryz.prog fr h [.tmp 2]):=ret_of Tryz.func275 rfl rfl
theorem call_276:CallT 276 Tryz.f276:=fun _ _=>R_call rfl rfl (by decide +kernel) rfl Tryz.func276 rfl
@[go_sem] theorem ret_276 (k:Nat) (fr:Fr) (h:Heap):retOf K 276 k fr h=leaving 0 k h (resL Tryz.prog fr h []):=ret_of Tryz.func276 rfl rfl
theorem call_281:CallT 281 Tryz.f281:=fun _ _=>R_call rfl rfl (by decide +kernel) rfl Tryz.func281 rfl
@[go_sem] theorem ret_281 (k:Nat) (fr:Fr) (h:Heap):retOf K 281 k fr h=leaving 0 k h (resL Tryz.prog fr h [.tmp 4]):=ret_of Tryz.func281 rfl rfl
theorem call_282:CallT 282 Tryz.f282:=fun _ _=>R_call rfl rfl (by decide +kernel) rfl Tryz.func282 rfl
@[go_sem] theorem ret_282 (k:Nat) (fr:Fr) (h:Heap):retOf K 282 k fr h=leaving 0 k h (resL Tryz.prog fr h [.tmp 5]):=ret_of Tryz.func282 rfl rfl
theorem call_301:CallT 301 Tryz.f301:=fun _ _=>R_call rfl rfl (by decide +kernel) rfl Tryz.func301 rfl
@[go_sem] theorem ret_301 (k:Nat) (fr:Fr) (h:Heap):retOf K 301 k fr h=leaving 0 k h (resL Tryz.prog fr h []):=ret_of Tryz.func301 rfl rfl
theorem call_302:CallT 302 Tryz.f302:=fun _ _=>R_call rfl rfl (by decide +kernel) rfl Tryz.func302 rfl
@[go_sem] theorem ret_302 (k:Nat) (fr:Fr) (h:Heap):retOf K 302 k fr h=leaving 0 k h (resL Tryz.prog fr h []):=ret_of Tryz.func302 rfl rfl
theorem call_318:CallT 318 Tryz.f318:=fun _ _=>R_call rfl rfl (by decide +kernel) rfl Tryz.func318 rfl
@[go_sem] theorem ret_318 (k:Nat) (fr:Fr) (h:Heap):retOf K 318 k fr h=leaving 0 k h (resL Tryz.prog fr h []):=ret_of Tryz.func318 rfl rfl
theorem call_331:CallT 331 Tryz.f331:=fun _ _=>R_call rfl rfl (by decide +kernel) rfl Tryz.func331 rfl
@[go_sem] theorem ret_331 (k:Nat) (fr:Fr) (h:Heap):retOf K 331 k fr h=leaving 0 k h (resL Tryz.prog fr h []):=ret_of Tryz.func331 rfl rfl
end Go.Ab
namespace Go.Ab
open Go Go.Proofs
attribute [go_sem] R_pst popR_nil popR_cell popR_row popR_new popR_tidy popR_whenF popR_whenN popR_whenT popR_opt popR_keep popP_mk R_seq R_cond R_exit R_ret R_end R_blk R_skip onUnw_some outOf_none onCond_true onCond_false get_eq get_ne put_some put_none ev_tmp ev_const ev_func
attribute [go_sem] stepO stepD stepQ stepA fillM fillS isQ quietOp alo fill numA plOf Go.Ab.alloc cellsOf single singles vunit val aLoad part pieces purify purifyL purifyK purifyKL pur purA sliceOf callOp callOpD callD afterD lv lvR evs callBy afterPure slotOf getO aUn pick aStr aStore buildV fillBy splice fieldA fieldV addOff aBin isConst aInt aShift eqOp yesO notO leaving guardU resL resV tupOf locs locsL locsH locsB locsF leaveR leave leaveL leaveG leaveGL leaveRows orRows leave1 leave2 leave3 keptA locsR renR ofVal ofVals entry placeOf eqV eqCells eqCell unwind onLoop onRound owned frz restr builtinD tk? lenV indexS indexP rowOk minV minI maxV maxI extractV convertV strIn nilCheckV sliceS sliceV sliceR sliceArr List.length_replicate bounds2 high low bound evo rowsOf appendV appendTo firstConst freshOf List.length_map allLen cut touchesQ touches touchesCall clears List.any_cons List.contains_nil List.contains_cons lookupV mapSet mapNew noKey insA ltKey keyFit intsB capV nilOf nilEq heapC nilC orV nilOr freshZ pstOf frzC ownAt isF isT frzO lastN frzR newR renF tidy tidyBy findA keyEq keyOk mapPut entriesOf lookRes Int.ofNat_eq_natCast Int.cast_ofNat_Int
@[go_sem] theorem appendX_own {el:Option TypeId} {wq:Bool} {h:Heap} {z b l n:Nat} {ys:List (List AV)}:appendX el wq h z b ys (.own l n)=appendTo wq h z b (.own l n) ys:=rfl
@[go_sem] theorem appendX_nils {el:Option TypeId} {wq:Bool} {h:Heap} {z b:Nat} {ys:List (List AV)}:appendX el wq h z b ys .nils=appendTo wq h z b .nils ys:=rfl
@[go_sem] theorem appendX_lit {el:Option TypeId} {wq:Bool} {h:Heap} {z b:Nat} {rs ys:List (List AV)}:appendX el wq h z b ys (.lit rs)=appendTo wq h z b (.lit rs) ys:=rfl
@[go_sem] theorem appendX_rows {el:Option TypeId} {wq:Bool} {h:Heap} {z b:Nat} {rs ys:List (List AV)}:appendX el wq h z b ys (.rows rs)=appendTo wq h z b (.rows rs) ys:=rfl
@[go_sem] theorem appendX_town {t:TypeId} {wq:Bool} {h:Heap} {z b l n:Nat} {ys:List (List AV)}:appendX (some t) wq h z b ys (.town t l n)=tyO t (appendTo wq h z b (.own l n) ys):=by simp [appendX]
@[go_sem] theorem tyO_own {t:TypeId} {l n:Nat} {h:Heap}:tyO t (some (.own l n,h))=some (.town t l n,h):=rfl
@[go_sem] theorem allocT_no {t:TypeId} {r:Option (AV×Heap)}:allocT false t r=r:=rfl
@[go_sem] theorem allocT_yes {t:TypeId} {l o:Nat} {h:Heap}:allocT true t (some (.ptr l o,h))=some (.tptr t l o,h):=rfl
@[go_sem] theorem callV_fn {nl:FuncId→Bool} {F:Tk→Res} {h:Heap} {args caps:List AV} {g:FuncId}:callV nl F h args (.fn g caps)=callBy F g h (args++caps) (purA (nl g) h (args++caps)):=rfl
@[go_sem] theorem callV_bnd {nl:FuncId→Bool} {F:Tk→Res} {h:Heap} {args fs:List AV} {g:FuncId}:callV nl F h args (.bnd g fs)=callBy F g h (fs++args) (purA (nl g) h (fs++args)):=rfl
attribute [go_sem] appendS
@[go_sem] theorem K_nlA:K.nlA=nlA:=rfl
@[go_sem] theorem K_post:K.post=post:=rfl
attribute [go_sem] nlA post
theorem clears_chg {dy:List (Nat×Nat)} {i:Nat} {fr:Fr} {h h':Heap} {T:List Nat} (e:clears dy i fr T=true):clears dy i fr (chg h h' T)=true:=by
 have sub:∀ (T:List Nat) (l:Nat),l∈chg h h' T→l∈T:=fun T l=>by
  induction T with
  | nil=>simp [chg]
  | cons x r ih =>
   simp only [chg]
   split
   ·exact fun hx=>List.mem_cons_of_mem _ (ih hx)
   ·intro hx
    rcases List.mem_cons.1 hx with rfl | hx
    ·simp
    ·exact List.mem_cons_of_mem _ (ih hx)
 induction dy with
 | nil=>rfl
 | cons a r ih =>
  obtain ⟨j,s⟩:=a
  simp only [clears,Bool.and_eq_true] at e ⊢
  refine ⟨?_,ih e.2⟩
  have e1:=e.1
  by_cases hj:j=i
  ·simp only [hj,if_true,Bool.not_eq_true',List.any_eq_false,List.contains_iff_mem] at e1 ⊢
   exact fun l hl hx=>e1 l hl (sub T l hx)
  ·simp only [hj,if_false]
@[go_sem] theorem clearAll_none {dy:List (Nat×Nat)} {fr:Fr}:clearAll dy fr []=true:=rfl
@[go_sem] theorem clearAll_chg {dy:List (Nat×Nat)} {fr:Fr} {i:Nat} {h h':Heap} {T:List Nat} {r:List (Nat×List Nat)}:clearAll dy fr ((i,chg h h' T)::r)=((clears dy i fr T||clears dy i fr (chg h h' T))&&clearAll dy fr r):=by
 simp only [clearAll]
 cases hc:clears dy i fr T with
 | false=>simp
 | true=>simp [clears_chg hc]
@[go_sem] theorem orBuild_some {h:Heap} {r:Option (AV×Heap)} {v:AV}:orBuild h r (some v)=some (v,h):=rfl
@[go_sem] theorem orBuild_none {h:Heap} {ev:Operand→AV} {n z b:Nat} {ps:List (Nat×Operand)}:orBuild h (buildN h ev n ps (some (z,b))) none=sliceN n z h (piecesN h ev z 0 ps):=rfl
attribute [go_sem] sliceN piecesN
@[go_sem] theorem under_nil (n:Nat):under n []=true:=rfl
@[go_sem] theorem under_cons (n l:Nat) (r:List Nat):(under n (l::r)=true)=(l < n∧under n r=true):=by simp [under]
@[go_sem] theorem outOf_cut {F:Tk→Res} {f k n:Nat} {ks:List It} {fr:Fr} {h:Heap} {l:List Nat}:outOf F f k ks n fr h (some l)=if k≤n∧(under n (locsF (restr fr l))=true∧under n (locsH (h.take n))=true) then F (.run f k ks (restr fr l) (h.take n)) else F (.run f k ks (restr fr l) h):=by
 simp [outOf]
@[go_sem] theorem onTurn_some {F:Tk→Res} {f k n:Nat} {ks:List It} {fr:Fr} {h:Heap} {c:Code} {live:List Nat×List Nat}:onTurn F f k ks c live n (some (fr,h))=if k≤n∧(under n (locsF fr)=true∧under n (locsH (h.take n))=true) then F (.run f k (.code c::.lp c (some live) n::ks) fr (h.take n)) else F (.run f k (.code c::.lp c (some live) n::ks) fr h):=by
 simp [onTurn]
attribute [go_sem] List.size_toArray Array.size_empty Option.getD_some Nat.zero_add Nat.add_zero List.length_nil List.length_cons List.length_append List.nil_append List.append_nil List.cons_append List.getElem?_cons_zero List.getElem?_cons_succ List.getElem?_nil List.getElem?_toArray beq_iff_eq List.take_zero List.take_succ_cons List.take_nil List.drop_zero List.drop_succ_cons List.drop_nil List.set_cons_zero List.set_cons_succ List.length_set List.replicate_zero List.replicate_succ List.any_nil Bool.not_false Bool.not_true Bool.and_true Bool.true_and Bool.and_false Bool.false_and Bool.or_true Bool.or_false Bool.true_or Bool.false_or Bool.and_self Bool.false_eq_true if_true if_false ite_true ite_false cond_true cond_false decide_true decide_false decide_eq_true_eq and_self and_true true_and and_false false_and Option.some.injEq AV.bool.injEq Nat.le_refl
end Go.Ab
