/- What is proved: facts by program on types and code, for rewriting. What is proved: nothing new; rules for rewriting are gathered. Conditions: none. -/
import Derived.Test.YtijnmoojncedlaaGreatDoorMS
import Derived.Test.YtijnmoojncedlaaGreatDoorMX3
set_option linter.unusedSimpArgs false
set_option linter.unusedVariables false
namespace Go.Ab
open Go Go.Proofs
set_option maxRecDepth 100000
@[go_sem] theorem K_P:K.P=Tryz.prog:=rfl
@[go_sem] theorem ZMb:K.bT=184:=rfl
@[go_sem] theorem ZJP:JC K (some 22)=true:=rfl
@[go_sem] theorem ZIh:JC K (some 26)=true:=rfl
@[go_sem] theorem ZGP:JC K (some 30)=true:=rfl
@[go_sem] theorem ZG6:JC K (some 43)=true:=rfl
@[go_sem] theorem ZFM:JC K (some 44)=false:=rfl
@[go_sem] theorem ZHS:JC K (some 45)=false:=rfl
@[go_sem] theorem ZIA:JC K (some 46)=false:=rfl
@[go_sem] theorem ZHL:JC K (some 72)=true:=rfl
@[go_sem] theorem ZJB:JC K (some 77)=true:=rfl
@[go_sem] theorem ZHj:JC K (some 86)=false:=rfl
@[go_sem] theorem ZFl:JC K (some 90)=true:=rfl
@[go_sem] theorem ZIa:JC K (some 91)=true:=rfl
@[go_sem] theorem ZCN:JC K (some 163)=false:=rfl
@[go_sem] theorem ZDF:JC K (some 195)=false:=rfl
@[go_sem] theorem ZEM:JC K (some 196)=false:=rfl
@[go_sem] theorem ZDe:JC K (some 206)=false:=rfl
@[go_sem] theorem ZEo:JC K (some 243)=false:=rfl
@[go_sem] theorem ZEc:JC K (some 245)=false:=rfl
@[go_sem] theorem ZDw:JC K (some 305)=false:=rfl
@[go_sem] theorem ZHV:K.nlT 22=false:=rfl
@[go_sem] theorem ZFn:K.nlT 26=true:=rfl
@[go_sem] theorem ZJ5:K.nlT 30=true:=rfl
@[go_sem] theorem ZHQ:K.nlT 43=true:=rfl
@[go_sem] theorem ZGR:K.nlT 44=false:=rfl
@[go_sem] theorem ZIu:K.nlT 45=true:=rfl
@[go_sem] theorem ZIH:K.nlT 46=true:=rfl
@[go_sem] theorem ZHC:K.nlT 72=false:=rfl
@[go_sem] theorem ZEX:K.nlT 77=false:=rfl
@[go_sem] theorem ZFf:K.nlT 86=false:=rfl
@[go_sem] theorem ZJk:K.nlT 90=true:=rfl
@[go_sem] theorem ZGJ:K.nlT 91=true:=rfl
@[go_sem] theorem ZC3:K.nlT 103=false:=rfl
@[go_sem] theorem ZEF:K.nlT 132=false:=rfl
@[go_sem] theorem ZEi:K.nlT 163=false:=rfl
@[go_sem] theorem ZDA:K.nlT 176=false:=rfl
@[go_sem] theorem ZER:K.nlT 195=false:=rfl
@[go_sem] theorem ZCP:K.nlT 196=false:=rfl
@[go_sem] theorem ZDu:K.nlT 206=false:=rfl
@[go_sem] theorem ZEe:K.nlT 243=false:=rfl
@[go_sem] theorem ZCW:K.nlT 245=false:=rfl
@[go_sem] theorem ZEI:K.nlT 256=false:=rfl
@[go_sem] theorem ZEn:K.nlT 299=false:=rfl
@[go_sem] theorem ZDV:K.nlT 305=false:=rfl
abbrev Zp (n:Nat) (f:Func):Prop:=∀ (args:List AV) (h:Zd),R K (.call n args h)=R K (.run n h.length [.code (f.body.getD .skip)] (X9 0 args) h)
theorem Zuh {f m k:Nat} {fr:Fr} {h:Zd} {fn:Func} {rs:List ResultVar} (h1:Tryz.prog.funcs[f]? = some fn) (h2:fn.results.toList=rs) (h3:K.ret f=m):ZcB K f k fr h=ZcC m k h (ZhS Tryz.prog fr h rs):=by
 unfold ZcB
 rw [K_P,h1,←h2,←h3]
abbrev Zz (f m:Nat) (l:List ResultVar):Prop:=∀ (k:Nat) (fr:Fr) (h:Zd),ZcB K f k fr h=ZcC m k h (ZhS Tryz.prog fr h l)
theorem Zo {f m:Nat} {fn:Func} {rs:List ResultVar} (h1:Tryz.prog.funcs[f]? = some fn) (h2:fn.results.toList=rs) (h3:K.ret f=m):Zz f m rs:=fun _ _ _=>Zuh h1 h2 h3
@[go_sem] theorem ZHG:ar Tryz.prog 103=none:=rfl
@[go_sem] theorem ZGw:ar Tryz.prog 104=none:=rfl
@[go_sem] theorem ZJM:ar Tryz.prog 112=none:=rfl
@[go_sem] theorem ZJU:ar Tryz.prog 130=none:=rfl
@[go_sem] theorem ZHc:ar Tryz.prog 132=none:=rfl
@[go_sem] theorem ZJT:ar Tryz.prog 163=none:=rfl
@[go_sem] theorem ZJn:ar Tryz.prog 176=none:=rfl
@[go_sem] theorem ZJq:ar Tryz.prog 195=none:=rfl
@[go_sem] theorem ZE4:ar Tryz.prog 196=none:=rfl
@[go_sem] theorem ZHN:ar Tryz.prog 206=none:=rfl
@[go_sem] theorem ZKY:ar Tryz.prog 22=none:=rfl
@[go_sem] theorem ZHU:ar Tryz.prog 243=none:=rfl
@[go_sem] theorem ZFR:ar Tryz.prog 245=none:=rfl
@[go_sem] theorem ZHA:ar Tryz.prog 256=none:=rfl
@[go_sem] theorem ZKD:ar Tryz.prog 26=none:=rfl
@[go_sem] theorem ZFV:ar Tryz.prog 299=none:=rfl
@[go_sem] theorem ZLA:ar Tryz.prog 30=none:=rfl
@[go_sem] theorem ZFa:ar Tryz.prog 305=none:=rfl
@[go_sem] theorem ZGT:ar Tryz.prog 428=some (6,3,1):=rfl
@[go_sem] theorem ZKF:ar Tryz.prog 43=none:=rfl
@[go_sem] theorem ZLM:ar Tryz.prog 44=none:=rfl
@[go_sem] theorem ZLl:ar Tryz.prog 45=none:=rfl
@[go_sem] theorem ZLL:ar Tryz.prog 46=none:=rfl
@[go_sem] theorem ZLk:ar Tryz.prog 72=none:=rfl
@[go_sem] theorem ZLV:ar Tryz.prog 77=none:=rfl
@[go_sem] theorem ZLP:ar Tryz.prog 86=none:=rfl
@[go_sem] theorem ZL7:ar Tryz.prog 9=none:=rfl
@[go_sem] theorem ZLF:ar Tryz.prog 90=none:=rfl
@[go_sem] theorem ZKw:ar Tryz.prog 91=none:=rfl
@[go_sem] theorem ZFk:ck Tryz.prog 178=.no:=by kernel_rfl
@[go_sem] theorem ZG7:ck Tryz.prog 187=.iface:=by kernel_rfl
@[go_sem] theorem ZJI:ck Tryz.prog 194=.ptr:=by kernel_rfl
@[go_sem] theorem ZIE:ck Tryz.prog 210=.ptr:=by kernel_rfl
@[go_sem] theorem ZKO:ck Tryz.prog 26=.no:=by kernel_rfl
@[go_sem] theorem ZH3:ck Tryz.prog 261=.no:=by kernel_rfl
@[go_sem] theorem ZGO:ck Tryz.prog 295=.ptr:=by kernel_rfl
@[go_sem] theorem ZL1:ck Tryz.prog 3=.no:=by kernel_rfl
@[go_sem] theorem ZKv:ck Tryz.prog 30=.no:=by kernel_rfl
@[go_sem] theorem ZHb:ck Tryz.prog 372=.no:=by kernel_rfl
@[go_sem] theorem ZKJ:ck Tryz.prog 39=.no:=by kernel_rfl
@[go_sem] theorem ZL0:ck Tryz.prog 4=.bool:=by kernel_rfl
@[go_sem] theorem ZKb:ck Tryz.prog 43=.no:=by kernel_rfl
@[go_sem] theorem ZLi:ck Tryz.prog 44=.no:=by kernel_rfl
@[go_sem] theorem ZKf:ck Tryz.prog 45=.no:=by kernel_rfl
@[go_sem] theorem ZKT:ck Tryz.prog 46=.no:=by kernel_rfl
@[go_sem] theorem ZLW:ck Tryz.prog 5=.no:=by kernel_rfl
@[go_sem] theorem ZKl:ck Tryz.prog 55=.flat [.int,.int,.str]:=by kernel_rfl
@[go_sem] theorem ZKI:ck Tryz.prog 72=.no:=by kernel_rfl
@[go_sem] theorem ZK9:ck Tryz.prog 77=.no:=by kernel_rfl
@[go_sem] theorem ZL3:ck Tryz.prog 9=.no:=by kernel_rfl
@[go_sem] theorem ZBA:Jx Tryz.prog 163 9=.ofBytes:=rfl
@[go_sem] theorem ZCn:Jx Tryz.prog 178 3=.int .i64:=rfl
@[go_sem] theorem ZCI:Jx Tryz.prog 21 9=.str:=rfl
@[go_sem] theorem ZBZ:Jx Tryz.prog 261 5=.int .u8:=rfl
@[go_sem] theorem ZAT:Jx Tryz.prog 3 178=.int .u64:=rfl
@[go_sem] theorem ZCH:Jx Tryz.prog 3 21=.int .i32:=rfl
@[go_sem] theorem Zzr:Jx Tryz.prog 3 261=.int .u64:=rfl
@[go_sem] theorem ZzR:Jx Tryz.prog 3 439=.int .u64:=rfl
@[go_sem] theorem ZEY:Jx Tryz.prog 3 5=.int .u8:=rfl
@[go_sem] theorem ZHp:Jx Tryz.prog 5 3=.int .i64:=rfl
@[go_sem] theorem ZCi:Jx Tryz.prog 9 163=.bytes:=rfl
@[go_sem] theorem ZFC:elT Tryz.prog 163=some (5):=rfl
@[go_sem] theorem ZJD:es Tryz.prog 103=some (9,120):=rfl
@[go_sem] theorem ZHu:es Tryz.prog 104=some (5,56):=rfl
@[go_sem] theorem ZHH:es Tryz.prog 112=some (1,8):=rfl
@[go_sem] theorem ZHW:es Tryz.prog 125=some (2,16):=rfl
@[go_sem] theorem ZJG:es Tryz.prog 130=some (1,24):=rfl
@[go_sem] theorem ZI9:es Tryz.prog 132=some (1,1):=rfl
@[go_sem] theorem ZF1:es Tryz.prog 163=some (1,1):=rfl
@[go_sem] theorem ZFF:es Tryz.prog 176=some (4,72):=rfl
@[go_sem] theorem ZFc:es Tryz.prog 195=some (9,128):=rfl
@[go_sem] theorem ZGx:es Tryz.prog 196=some (7,80):=rfl
@[go_sem] theorem ZGb:es Tryz.prog 206=some (13,192):=rfl
@[go_sem] theorem ZLt:es Tryz.prog 22=some (1,8):=rfl
@[go_sem] theorem ZG0:es Tryz.prog 243=some (5,64):=rfl
@[go_sem] theorem ZIP:es Tryz.prog 245=some (10,144):=rfl
@[go_sem] theorem ZGI:es Tryz.prog 256=some (1,8):=rfl
@[go_sem] theorem ZK1:es Tryz.prog 26=some (5,112):=rfl
@[go_sem] theorem ZH4:es Tryz.prog 270=none:=rfl
@[go_sem] theorem ZH0:es Tryz.prog 274=some (10,192):=rfl
@[go_sem] theorem ZIN:es Tryz.prog 275=some (15,200):=rfl
@[go_sem] theorem ZHt:es Tryz.prog 299=some (1,24):=rfl
@[go_sem] theorem ZMe:es Tryz.prog 3=none:=rfl
@[go_sem] theorem ZLG:es Tryz.prog 30=some (2,40):=rfl
@[go_sem] theorem ZFq:es Tryz.prog 305=some (3,40):=rfl
@[go_sem] theorem ZIT:es Tryz.prog 428=none:=rfl
@[go_sem] theorem ZKP:es Tryz.prog 43=some (6,64):=rfl
@[go_sem] theorem ZLo:es Tryz.prog 44=some (1,16):=rfl
@[go_sem] theorem ZLc:es Tryz.prog 45=some (3,56):=rfl
@[go_sem] theorem ZKz:es Tryz.prog 46=some (3,48):=rfl
@[go_sem] theorem ZLB:es Tryz.prog 72=some (3,32):=rfl
@[go_sem] theorem ZK0:es Tryz.prog 77=some (1,24):=rfl
@[go_sem] theorem ZLb:es Tryz.prog 86=some (1,24):=rfl
@[go_sem] theorem ZL4:es Tryz.prog 9=none:=rfl
@[go_sem] theorem ZKo:es Tryz.prog 90=some (2,40):=rfl
@[go_sem] theorem ZKt:es Tryz.prog 91=some (10,136):=rfl
@[go_sem] theorem ZI0:Wc Tryz.prog 112=some (.nilm):=rfl
@[go_sem] theorem ZEZ:Wc Tryz.prog 130=some (.nils):=rfl
@[go_sem] theorem ZH9:Wc Tryz.prog 132=some (.bool false):=rfl
@[go_sem] theorem ZHk:Wc Tryz.prog 163=some (.int .u8 0):=rfl
@[go_sem] theorem ZLr:Wc Tryz.prog 30=some (.agg [.str [],.nils]):=rfl
@[go_sem] theorem ZBX:fo Tryz.prog 102 0=some (0,9):=rfl
@[go_sem] theorem ZBI:fo Tryz.prog 102 1=some (1,3):=rfl
@[go_sem] theorem ZAQ:fo Tryz.prog 102 2=some (2,3):=rfl
@[go_sem] theorem ZzU:fo Tryz.prog 102 3=some (3,3):=rfl
@[go_sem] theorem ZBw:fo Tryz.prog 102 4=some (4,55):=rfl
@[go_sem] theorem Zzu:fo Tryz.prog 102 5=some (7,72):=rfl
@[go_sem] theorem ZBG:fo Tryz.prog 102 6=some (8,22):=rfl
@[go_sem] theorem ZCj:fo Tryz.prog 106 0=some (0,103):=rfl
@[go_sem] theorem ZBe:fo Tryz.prog 106 1=some (1,104):=rfl
@[go_sem] theorem ZBb:fo Tryz.prog 127 0=some (0,28):=rfl
@[go_sem] theorem ZzS:fo Tryz.prog 127 1=some (1,32):=rfl
@[go_sem] theorem ZAC:fo Tryz.prog 127 2=some (2,125):=rfl
@[go_sem] theorem ZCt:fo Tryz.prog 129 2=some (2,28):=rfl
@[go_sem] theorem ZAd:fo Tryz.prog 129 3=some (3,32):=rfl
@[go_sem] theorem Zzh:fo Tryz.prog 129 5=some (5,113):=rfl
@[go_sem] theorem ZCp:fo Tryz.prog 129 7=some (7,4):=rfl
@[go_sem] theorem ZzA:fo Tryz.prog 137 0=some (0,3):=rfl
@[go_sem] theorem ZCf:fo Tryz.prog 137 1=some (1,9):=rfl
@[go_sem] theorem Zzx:fo Tryz.prog 137 2=some (2,72):=rfl
@[go_sem] theorem ZAV:fo Tryz.prog 137 3=some (3,72):=rfl
@[go_sem] theorem Zzp:fo Tryz.prog 147 0=some (0,4):=rfl
@[go_sem] theorem ZAS:fo Tryz.prog 184 1=some (1,163):=rfl
@[go_sem] theorem Zy4:fo Tryz.prog 198 0=some (0,9):=rfl
@[go_sem] theorem ZAG:fo Tryz.prog 198 1=some (1,9):=rfl
@[go_sem] theorem ZBP:fo Tryz.prog 198 2=some (2,4):=rfl
@[go_sem] theorem Zy9:fo Tryz.prog 198 3=some (3,4):=rfl
@[go_sem] theorem Zy3:fo Tryz.prog 198 4=some (4,4):=rfl
@[go_sem] theorem ZBQ:fo Tryz.prog 198 5=some (5,4):=rfl
@[go_sem] theorem ZA5:fo Tryz.prog 198 6=some (6,195):=rfl
@[go_sem] theorem ZAo:fo Tryz.prog 198 7=some (7,196):=rfl
@[go_sem] theorem Zzg:fo Tryz.prog 198 8=some (8,86):=rfl
@[go_sem] theorem Zzc:fo Tryz.prog 198 9=some (9,86):=rfl
@[go_sem] theorem ZzZ:fo Tryz.prog 203 0=some (0,9):=rfl
@[go_sem] theorem ZA8:fo Tryz.prog 203 1=some (1,195):=rfl
@[go_sem] theorem ZBd:fo Tryz.prog 208 0=some (0,9):=rfl
@[go_sem] theorem ZAX:fo Tryz.prog 208 1=some (1,3):=rfl
@[go_sem] theorem ZAi:fo Tryz.prog 208 2=some (2,9):=rfl
@[go_sem] theorem ZzY:fo Tryz.prog 208 3=some (3,4):=rfl
@[go_sem] theorem ZB0:fo Tryz.prog 208 4=some (4,55):=rfl
@[go_sem] theorem ZAW:fo Tryz.prog 208 5=some (7,44):=rfl
@[go_sem] theorem ZBi:fo Tryz.prog 208 6=some (8,206):=rfl
@[go_sem] theorem ZBo:fo Tryz.prog 212 0=some (0,9):=rfl
@[go_sem] theorem ZzP:fo Tryz.prog 212 1=some (1,3):=rfl
@[go_sem] theorem ZB5:fo Tryz.prog 212 2=some (2,9):=rfl
@[go_sem] theorem ZAM:fo Tryz.prog 212 3=some (3,9):=rfl
@[go_sem] theorem ZAn:fo Tryz.prog 212 4=some (4,4):=rfl
@[go_sem] theorem ZBk:fo Tryz.prog 212 5=some (5,3):=rfl
@[go_sem] theorem ZB7:fo Tryz.prog 212 6=some (6,4):=rfl
@[go_sem] theorem ZAb:fo Tryz.prog 220 0=some (0,93):=rfl
@[go_sem] theorem ZAk:fo Tryz.prog 242 0=some (0,93):=rfl
@[go_sem] theorem ZAu:fo Tryz.prog 242 1=some (2,106):=rfl
@[go_sem] theorem Zzk:fo Tryz.prog 242 2=some (4,238):=rfl
@[go_sem] theorem ZB8:fo Tryz.prog 242 3=some (5,239):=rfl
@[go_sem] theorem ZCs:fo Tryz.prog 242 4=some (6,240):=rfl
@[go_sem] theorem Zy8:fo Tryz.prog 248 0=some (0,9):=rfl
@[go_sem] theorem ZBf:fo Tryz.prog 248 1=some (1,208):=rfl
@[go_sem] theorem ZD7:fo Tryz.prog 25 0=some (0,22):=rfl
@[go_sem] theorem ZEN:fo Tryz.prog 25 1=some (1,3):=rfl
@[go_sem] theorem ZBO:fo Tryz.prog 252 0=some (0,9):=rfl
@[go_sem] theorem ZBJ:fo Tryz.prog 252 1=some (1,9):=rfl
@[go_sem] theorem ZA7:fo Tryz.prog 252 2=some (2,3):=rfl
@[go_sem] theorem ZAa:fo Tryz.prog 252 3=some (3,3):=rfl
@[go_sem] theorem Zz2:fo Tryz.prog 252 4=some (4,3):=rfl
@[go_sem] theorem Zzf:fo Tryz.prog 277 0=some (0,3):=rfl
@[go_sem] theorem Zz7:fo Tryz.prog 277 1=some (1,3):=rfl
@[go_sem] theorem Zw8:fo Tryz.prog 277 10=some (12,275):=rfl
@[go_sem] theorem ZA9:fo Tryz.prog 277 2=some (2,3):=rfl
@[go_sem] theorem ZAF:fo Tryz.prog 277 3=some (3,55):=rfl
@[go_sem] theorem ZCm:fo Tryz.prog 277 4=some (6,9):=rfl
@[go_sem] theorem Zzl:fo Tryz.prog 277 5=some (7,9):=rfl
@[go_sem] theorem ZAR:fo Tryz.prog 277 6=some (8,4):=rfl
@[go_sem] theorem ZBj:fo Tryz.prog 277 7=some (9,206):=rfl
@[go_sem] theorem ZCl:fo Tryz.prog 277 8=some (10,274):=rfl
@[go_sem] theorem ZAA:fo Tryz.prog 277 9=some (11,206):=rfl
@[go_sem] theorem ZDl:fo Tryz.prog 28 0=some (0,26):=rfl
@[go_sem] theorem ZCx:fo Tryz.prog 32 0=some (0,30):=rfl
@[go_sem] theorem ZCr:fo Tryz.prog 324 0=some (0,9):=rfl
@[go_sem] theorem ZBa:fo Tryz.prog 324 1=some (1,9):=rfl
@[go_sem] theorem Zzz:fo Tryz.prog 324 2=some (2,3):=rfl
@[go_sem] theorem ZAB:fo Tryz.prog 324 3=some (3,9):=rfl
@[go_sem] theorem ZCo:fo Tryz.prog 324 4=some (4,4):=rfl
@[go_sem] theorem ZzV:fo Tryz.prog 366 0=some (0,305):=rfl
@[go_sem] theorem ZBY:fo Tryz.prog 366 1=some (1,22):=rfl
@[go_sem] theorem ZCk:fo Tryz.prog 369 0=some (0,9):=rfl
@[go_sem] theorem ZA0:fo Tryz.prog 369 1=some (1,9):=rfl
@[go_sem] theorem Zza:fo Tryz.prog 369 2=some (2,3):=rfl
@[go_sem] theorem ZzE:fo Tryz.prog 418 0=some (0,9):=rfl
@[go_sem] theorem ZAO:fo Tryz.prog 418 1=some (1,4):=rfl
@[go_sem] theorem ZBu:fo Tryz.prog 418 2=some (2,4):=rfl
@[go_sem] theorem ZDJ:fo Tryz.prog 48 0=some (0,9):=rfl
@[go_sem] theorem ZEr:fo Tryz.prog 48 1=some (1,43):=rfl
@[go_sem] theorem ZEz:fo Tryz.prog 48 2=some (2,44):=rfl
@[go_sem] theorem ZEt:fo Tryz.prog 48 3=some (3,45):=rfl
@[go_sem] theorem ZEw:fo Tryz.prog 48 4=some (4,46):=rfl
@[go_sem] theorem ZDn:fo Tryz.prog 53 0=some (0,9):=rfl
@[go_sem] theorem ZEy:fo Tryz.prog 53 1=some (1,44):=rfl
@[go_sem] theorem ZEx:fo Tryz.prog 53 2=some (2,9):=rfl
@[go_sem] theorem ZEp:fo Tryz.prog 55 0=some (0,3):=rfl
@[go_sem] theorem ZCR:fo Tryz.prog 55 1=some (1,3):=rfl
@[go_sem] theorem ZDp:fo Tryz.prog 55 2=some (2,9):=rfl
@[go_sem] theorem ZEd:fo Tryz.prog 57 0=some (0,9):=rfl
@[go_sem] theorem ZDj:fo Tryz.prog 57 1=some (1,3):=rfl
@[go_sem] theorem ZED:fo Tryz.prog 57 2=some (2,4):=rfl
@[go_sem] theorem ZDg:fo Tryz.prog 57 3=some (3,55):=rfl
@[go_sem] theorem ZC7:fo Tryz.prog 79 0=some (0,9):=rfl
@[go_sem] theorem ZDm:fo Tryz.prog 79 1=some (1,77):=rfl
@[go_sem] theorem ZD9:fo Tryz.prog 89 0=some (0,9):=rfl
@[go_sem] theorem ZEf:fo Tryz.prog 89 1=some (1,44):=rfl
@[go_sem] theorem ZCY:fo Tryz.prog 89 2=some (2,4):=rfl
@[go_sem] theorem ZDh:fo Tryz.prog 93 0=some (0,90):=rfl
@[go_sem] theorem ZDI:fo Tryz.prog 93 1=some (1,91):=rfl
@[go_sem] theorem ZLY (x:AV):Zio Tryz.prog 9 x=some (.iface 9 x):=rfl
@[go_sem] theorem ZDO:QT Tryz.prog 178=false:=rfl
@[go_sem] theorem ZEQ:QT Tryz.prog 187=false:=rfl
@[go_sem] theorem ZEq:QT Tryz.prog 194=false:=rfl
@[go_sem] theorem ZD2:QT Tryz.prog 210=false:=rfl
@[go_sem] theorem ZIG:QT Tryz.prog 26=true:=rfl
@[go_sem] theorem ZEk:QT Tryz.prog 261=false:=rfl
@[go_sem] theorem ZDK:QT Tryz.prog 295=false:=rfl
@[go_sem] theorem ZLz:QT Tryz.prog 3=false:=rfl
@[go_sem] theorem ZF7:QT Tryz.prog 30=true:=rfl
@[go_sem] theorem ZDv:QT Tryz.prog 372=false:=rfl
@[go_sem] theorem ZJJ:QT Tryz.prog 39=false:=rfl
@[go_sem] theorem ZK6:QT Tryz.prog 4=false:=rfl
@[go_sem] theorem ZIg:QT Tryz.prog 43=true:=rfl
@[go_sem] theorem ZJo:QT Tryz.prog 44=true:=rfl
@[go_sem] theorem ZH5:QT Tryz.prog 45=true:=rfl
@[go_sem] theorem ZJr:QT Tryz.prog 46=true:=rfl
@[go_sem] theorem ZKA:QT Tryz.prog 5=false:=rfl
@[go_sem] theorem ZJ0:QT Tryz.prog 55=false:=rfl
@[go_sem] theorem ZI6:QT Tryz.prog 72=true:=rfl
@[go_sem] theorem ZIn:QT Tryz.prog 77=true:=rfl
@[go_sem] theorem ZLv:QT Tryz.prog 9=false:=rfl
@[go_sem] theorem ZI2:Zem Tryz.prog 113=some (.str,4):=rfl
@[go_sem] theorem ZJS:Zem Tryz.prog 238=some (.str,243):=rfl
@[go_sem] theorem ZIM:Zem Tryz.prog 239=some (.str,44):=rfl
@[go_sem] theorem ZGh:Zem Tryz.prog 240=some (.arr 3,9):=rfl
@[go_sem] theorem ZGz:Zem Tryz.prog 327=some (.str,55):=rfl
@[go_sem] theorem ZEl:plc Tryz.prog 102=some (.fields [(0,1),(1,1),(2,1),(3,1),(4,3),(7,1),(8,1)]):=rfl
@[go_sem] theorem ZC5:plc Tryz.prog 106=some (.fields [(0,1),(1,1)]):=rfl
@[go_sem] theorem ZDy:plc Tryz.prog 127=some (.fields [(0,1),(1,1),(2,1)]):=rfl
@[go_sem] theorem ZCX:plc Tryz.prog 129=some (.fields [(0,1),(1,1),(2,1),(3,1),(4,1),(5,1),(6,1),(7,1)]):=rfl
@[go_sem] theorem ZC6:plc Tryz.prog 137=some (.fields [(0,1),(1,1),(2,1),(3,1)]):=rfl
@[go_sem] theorem ZCU:plc Tryz.prog 147=some (.fields [(0,1)]):=rfl
@[go_sem] theorem ZEv:plc Tryz.prog 198=some (.fields [(0,1),(1,1),(2,1),(3,1),(4,1),(5,1),(6,1),(7,1),(8,1),(9,1)]):=rfl
@[go_sem] theorem ZD5:plc Tryz.prog 203=some (.fields [(0,1),(1,1)]):=rfl
@[go_sem] theorem ZDq:plc Tryz.prog 208=some (.fields [(0,1),(1,1),(2,1),(3,1),(4,3),(7,1),(8,1)]):=rfl
@[go_sem] theorem ZEU:plc Tryz.prog 212=some (.fields [(0,1),(1,1),(2,1),(3,1),(4,1),(5,1),(6,1)]):=rfl
@[go_sem] theorem ZD3:plc Tryz.prog 220=some (.fields [(0,2)]):=rfl
@[go_sem] theorem ZEg:plc Tryz.prog 242=some (.fields [(0,2),(2,2),(4,1),(5,1),(6,1)]):=rfl
@[go_sem] theorem ZDM:plc Tryz.prog 248=some (.fields [(0,1),(1,9)]):=rfl
@[go_sem] theorem ZG2:plc Tryz.prog 25=some (.fields [(0,1),(1,1)]):=rfl
@[go_sem] theorem ZES:plc Tryz.prog 277=some (.fields [(0,1),(1,1),(2,1),(3,3),(6,1),(7,1),(8,1),(9,1),(10,1),(11,1),(12,1)]):=rfl
@[go_sem] theorem ZIp:plc Tryz.prog 28=some (.fields [(0,1)]):=rfl
@[go_sem] theorem ZFb:plc Tryz.prog 32=some (.fields [(0,1)]):=rfl
@[go_sem] theorem ZDL:plc Tryz.prog 324=some (.fields [(0,1),(1,1),(2,1),(3,1),(4,1)]):=rfl
@[go_sem] theorem ZEO:plc Tryz.prog 366=some (.fields [(0,1),(1,1)]):=rfl
@[go_sem] theorem ZD0:plc Tryz.prog 369=some (.fields [(0,1),(1,1),(2,1)]):=rfl
@[go_sem] theorem ZDa:plc Tryz.prog 397=some (.elems 1):=rfl
@[go_sem] theorem ZEs:plc Tryz.prog 418=some (.fields [(0,1),(1,1),(2,1)]):=rfl
@[go_sem] theorem ZDY:plc Tryz.prog 428=some (.elems 1):=rfl
@[go_sem] theorem ZId:plc Tryz.prog 48=some (.fields [(0,1),(1,1),(2,1),(3,1),(4,1)]):=rfl
@[go_sem] theorem ZHz:plc Tryz.prog 53=some (.fields [(0,1),(1,1),(2,1)]):=rfl
@[go_sem] theorem ZFt:plc Tryz.prog 55=some (.fields [(0,1),(1,1),(2,1)]):=rfl
@[go_sem] theorem ZGD:plc Tryz.prog 57=some (.fields [(0,1),(1,1),(2,1),(3,3)]):=rfl
@[go_sem] theorem ZHy:plc Tryz.prog 79=some (.fields [(0,1),(1,1)]):=rfl
@[go_sem] theorem ZIc:plc Tryz.prog 89=some (.fields [(0,1),(1,1),(2,1)]):=rfl
@[go_sem] theorem ZF2:plc Tryz.prog 93=some (.fields [(0,1),(1,1)]):=rfl
@[go_sem] theorem ZG3:sh Tryz.prog 102=some (.agg 9):=rfl
@[go_sem] theorem ZE7:sh Tryz.prog 103=some .one:=rfl
@[go_sem] theorem ZGn:sh Tryz.prog 104=some .one:=rfl
@[go_sem] theorem ZIe:sh Tryz.prog 106=some (.agg 2):=rfl
@[go_sem] theorem ZFw:sh Tryz.prog 112=some .one:=rfl
@[go_sem] theorem ZHl:sh Tryz.prog 113=some .one:=rfl
@[go_sem] theorem ZIO:sh Tryz.prog 125=some .one:=rfl
@[go_sem] theorem ZHn:sh Tryz.prog 130=some .one:=rfl
@[go_sem] theorem ZGg:sh Tryz.prog 132=some .one:=rfl
@[go_sem] theorem ZGH:sh Tryz.prog 137=some (.agg 4):=rfl
@[go_sem] theorem ZIv:sh Tryz.prog 155=some .one:=rfl
@[go_sem] theorem ZJm:sh Tryz.prog 160=some .one:=rfl
@[go_sem] theorem ZGk:sh Tryz.prog 163=some .one:=rfl
@[go_sem] theorem ZJW:sh Tryz.prog 194=some .one:=rfl
@[go_sem] theorem ZIx:sh Tryz.prog 195=some .one:=rfl
@[go_sem] theorem ZGX:sh Tryz.prog 196=some .one:=rfl
@[go_sem] theorem ZH7:sh Tryz.prog 198=some (.agg 10):=rfl
@[go_sem] theorem ZFE:sh Tryz.prog 203=some (.agg 2):=rfl
@[go_sem] theorem ZFd:sh Tryz.prog 206=some .one:=rfl
@[go_sem] theorem ZJd:sh Tryz.prog 208=some (.agg 9):=rfl
@[go_sem] theorem ZJO:sh Tryz.prog 212=some (.agg 7):=rfl
@[go_sem] theorem ZJ6:sh Tryz.prog 22=some .one:=rfl
@[go_sem] theorem ZHg:sh Tryz.prog 220=some (.agg 2):=rfl
@[go_sem] theorem ZJh:sh Tryz.prog 238=some .one:=rfl
@[go_sem] theorem ZFj:sh Tryz.prog 239=some .one:=rfl
@[go_sem] theorem ZHf:sh Tryz.prog 240=some .one:=rfl
@[go_sem] theorem ZFU:sh Tryz.prog 243=some .one:=rfl
@[go_sem] theorem ZJC:sh Tryz.prog 248=some (.agg 10):=rfl
@[go_sem] theorem ZGe:sh Tryz.prog 252=some (.agg 5):=rfl
@[go_sem] theorem ZGB:sh Tryz.prog 259=some .one:=rfl
@[go_sem] theorem ZKR:sh Tryz.prog 26=some .one:=rfl
@[go_sem] theorem ZIV:sh Tryz.prog 274=some .one:=rfl
@[go_sem] theorem ZHX:sh Tryz.prog 275=some .one:=rfl
@[go_sem] theorem ZJv:sh Tryz.prog 277=some (.agg 13):=rfl
@[go_sem] theorem ZLm:sh Tryz.prog 28=some (.agg 1):=rfl
@[go_sem] theorem ZG4:sh Tryz.prog 281=some .one:=rfl
@[go_sem] theorem ZMg:sh Tryz.prog 3=some .one:=rfl
@[go_sem] theorem ZKn:sh Tryz.prog 30=some .one:=rfl
@[go_sem] theorem ZJa:sh Tryz.prog 305=some .one:=rfl
@[go_sem] theorem ZKj:sh Tryz.prog 32=some (.agg 1):=rfl
@[go_sem] theorem ZHR:sh Tryz.prog 324=some (.agg 5):=rfl
@[go_sem] theorem ZJL:sh Tryz.prog 366=some (.agg 2):=rfl
@[go_sem] theorem ZHI:sh Tryz.prog 369=some (.agg 3):=rfl
@[go_sem] theorem ZMa:sh Tryz.prog 4=some .one:=rfl
@[go_sem] theorem ZJj:sh Tryz.prog 428=some (.agg 6):=rfl
@[go_sem] theorem ZJ9:sh Tryz.prog 43=some .one:=rfl
@[go_sem] theorem ZK7:sh Tryz.prog 44=some .one:=rfl
@[go_sem] theorem ZKi:sh Tryz.prog 45=some .one:=rfl
@[go_sem] theorem ZKm:sh Tryz.prog 46=some .one:=rfl
@[go_sem] theorem ZLR:sh Tryz.prog 48=some (.agg 5):=rfl
@[go_sem] theorem ZMd:sh Tryz.prog 5=some .one:=rfl
@[go_sem] theorem ZLK:sh Tryz.prog 51=some .one:=rfl
@[go_sem] theorem ZLQ:sh Tryz.prog 53=some (.agg 3):=rfl
@[go_sem] theorem ZKh:sh Tryz.prog 55=some (.agg 3):=rfl
@[go_sem] theorem ZLS:sh Tryz.prog 57=some (.agg 6):=rfl
@[go_sem] theorem ZLh:sh Tryz.prog 72=some .one:=rfl
@[go_sem] theorem ZKk:sh Tryz.prog 77=some .one:=rfl
@[go_sem] theorem ZKK:sh Tryz.prog 79=some (.agg 2):=rfl
@[go_sem] theorem ZKU:sh Tryz.prog 86=some .one:=rfl
@[go_sem] theorem ZK4:sh Tryz.prog 89=some (.agg 3):=rfl
@[go_sem] theorem ZL5:sh Tryz.prog 9=some .one:=rfl
@[go_sem] theorem ZLp:sh Tryz.prog 90=some .one:=rfl
@[go_sem] theorem ZKV:sh Tryz.prog 91=some .one:=rfl
@[go_sem] theorem ZKG:sh Tryz.prog 93=some (.agg 2):=rfl
@[go_sem] theorem ZGE:YG Tryz.prog 102=some (9):=rfl
@[go_sem] theorem ZJH:YG Tryz.prog 112=some (1):=rfl
@[go_sem] theorem ZGS:YG Tryz.prog 113=some (1):=rfl
@[go_sem] theorem ZIw:YG Tryz.prog 130=some (1):=rfl
@[go_sem] theorem ZJp:YG Tryz.prog 132=some (1):=rfl
@[go_sem] theorem ZFs:YG Tryz.prog 137=some (4):=rfl
@[go_sem] theorem ZGu:YG Tryz.prog 163=some (1):=rfl
@[go_sem] theorem ZFD:YG Tryz.prog 194=some (1):=rfl
@[go_sem] theorem ZJy:YG Tryz.prog 195=some (1):=rfl
@[go_sem] theorem ZFY:YG Tryz.prog 196=some (1):=rfl
@[go_sem] theorem ZGm:YG Tryz.prog 198=some (10):=rfl
@[go_sem] theorem ZHK:YG Tryz.prog 203=some (2):=rfl
@[go_sem] theorem ZGi:YG Tryz.prog 206=some (1):=rfl
@[go_sem] theorem ZHJ:YG Tryz.prog 208=some (9):=rfl
@[go_sem] theorem ZHa:YG Tryz.prog 212=some (7):=rfl
@[go_sem] theorem ZJ3:YG Tryz.prog 220=some (2):=rfl
@[go_sem] theorem ZHB:YG Tryz.prog 243=some (1):=rfl
@[go_sem] theorem ZFW:YG Tryz.prog 248=some (10):=rfl
@[go_sem] theorem ZI1:YG Tryz.prog 252=some (5):=rfl
@[go_sem] theorem ZKa:YG Tryz.prog 26=some (1):=rfl
@[go_sem] theorem ZGc:YG Tryz.prog 277=some (13):=rfl
@[go_sem] theorem ZKx:YG Tryz.prog 28=some (1):=rfl
@[go_sem] theorem ZG8:YG Tryz.prog 281=some (1):=rfl
@[go_sem] theorem ZL2:YG Tryz.prog 3=some (1):=rfl
@[go_sem] theorem ZLE:YG Tryz.prog 30=some (1):=rfl
@[go_sem] theorem ZKH:YG Tryz.prog 32=some (1):=rfl
@[go_sem] theorem ZGQ:YG Tryz.prog 324=some (5):=rfl
@[go_sem] theorem ZJg:YG Tryz.prog 369=some (3):=rfl
@[go_sem] theorem ZL8:YG Tryz.prog 4=some (1):=rfl
@[go_sem] theorem ZGA:YG Tryz.prog 428=some (6):=rfl
@[go_sem] theorem ZKQ:YG Tryz.prog 43=some (1):=rfl
@[go_sem] theorem ZFN:YG Tryz.prog 439=some (1):=rfl
@[go_sem] theorem ZKL:YG Tryz.prog 44=some (1):=rfl
@[go_sem] theorem ZLe:YG Tryz.prog 45=some (1):=rfl
@[go_sem] theorem ZJ7:YG Tryz.prog 46=some (1):=rfl
@[go_sem] theorem ZLN:YG Tryz.prog 48=some (5):=rfl
@[go_sem] theorem ZLy:YG Tryz.prog 53=some (3):=rfl
@[go_sem] theorem ZK5:YG Tryz.prog 55=some (3):=rfl
@[go_sem] theorem ZLj:YG Tryz.prog 57=some (6):=rfl
@[go_sem] theorem ZLC:YG Tryz.prog 72=some (1):=rfl
@[go_sem] theorem ZKB:YG Tryz.prog 77=some (1):=rfl
@[go_sem] theorem ZKE:YG Tryz.prog 79=some (2):=rfl
@[go_sem] theorem ZKr:YG Tryz.prog 86=some (1):=rfl
@[go_sem] theorem ZLq:YG Tryz.prog 89=some (3):=rfl
@[go_sem] theorem ZMf:YG Tryz.prog 9=some (1):=rfl
@[go_sem] theorem ZKe:YG Tryz.prog 90=some (1):=rfl
@[go_sem] theorem ZLx:YG Tryz.prog 91=some (1):=rfl
@[go_sem] theorem ZKN:YG Tryz.prog 93=some (2):=rfl
@[go_sem] theorem ZFh:tk Tryz.prog 103=.slice 9 120:=rfl
@[go_sem] theorem ZHF:tk Tryz.prog 104=.slice 5 56:=rfl
@[go_sem] theorem ZH2:tk Tryz.prog 125=.slice 2 16:=rfl
@[go_sem] theorem ZIS:tk Tryz.prog 132=.slice 1 1:=rfl
@[go_sem] theorem ZHE:tk Tryz.prog 163=.slice 1 1:=rfl
@[go_sem] theorem ZHq:tk Tryz.prog 176=.slice 4 72:=rfl
@[go_sem] theorem ZGr:tk Tryz.prog 195=.slice 9 128:=rfl
@[go_sem] theorem ZFG:tk Tryz.prog 196=.slice 7 80:=rfl
@[go_sem] theorem ZJE:tk Tryz.prog 206=.slice 13 192:=rfl
@[go_sem] theorem ZLI:tk Tryz.prog 22=.slice 1 8:=rfl
@[go_sem] theorem ZIQ:tk Tryz.prog 243=.slice 5 64:=rfl
@[go_sem] theorem ZHO:tk Tryz.prog 245=.slice 10 144:=rfl
@[go_sem] theorem ZFi:tk Tryz.prog 256=.slice 1 8:=rfl
@[go_sem] theorem ZK2:tk Tryz.prog 26=.slice 5 112:=rfl
@[go_sem] theorem ZJY:tk Tryz.prog 270=.other:=rfl
@[go_sem] theorem ZH8:tk Tryz.prog 274=.slice 10 192:=rfl
@[go_sem] theorem ZGY:tk Tryz.prog 275=.slice 15 200:=rfl
@[go_sem] theorem ZJX:tk Tryz.prog 299=.slice 1 24:=rfl
@[go_sem] theorem ZLZ:tk Tryz.prog 3=.other:=rfl
@[go_sem] theorem ZKd:tk Tryz.prog 30=.slice 2 40:=rfl
@[go_sem] theorem ZI8:tk Tryz.prog 305=.slice 3 40:=rfl
@[go_sem] theorem ZG9:tk Tryz.prog 428=.arr 6:=rfl
@[go_sem] theorem ZLH:tk Tryz.prog 43=.slice 6 64:=rfl
@[go_sem] theorem ZLd:tk Tryz.prog 44=.slice 1 16:=rfl
@[go_sem] theorem ZKp:tk Tryz.prog 45=.slice 3 56:=rfl
@[go_sem] theorem ZLT:tk Tryz.prog 46=.slice 3 48:=rfl
@[go_sem] theorem ZLJ:tk Tryz.prog 72=.slice 3 32:=rfl
@[go_sem] theorem ZLU:tk Tryz.prog 77=.slice 1 24:=rfl
@[go_sem] theorem ZKq:tk Tryz.prog 86=.slice 1 24:=rfl
@[go_sem] theorem ZLX:tk Tryz.prog 9=.str:=rfl
@[go_sem] theorem ZLO:tk Tryz.prog 90=.slice 2 40:=rfl
@[go_sem] theorem ZLa:tk Tryz.prog 91=.slice 10 136:=rfl
@[go_sem] theorem ZIr:zv Tryz.prog 102=some (.agg [.str [],.int .i64 0,.int .i64 0,.int .i64 0,.int .i64 0,.int .i64 0,.str [],.nils,.nils]):=rfl
@[go_sem] theorem ZHY:zv Tryz.prog 106=some (.agg [.nils,.nils]):=rfl
@[go_sem] theorem ZE0:zv Tryz.prog 112=some (.nils):=rfl
@[go_sem] theorem ZJe:zv Tryz.prog 113=some (.nilm):=rfl
@[go_sem] theorem ZF8:zv Tryz.prog 127=some (.agg [.nils,.nils,.nils]):=rfl
@[go_sem] theorem ZE5:zv Tryz.prog 129=some (.agg [.nilp,.int .i64 0,.nils,.nils,.nils,.nilm,.bool false,.bool false]):=rfl
@[go_sem] theorem ZFz:zv Tryz.prog 130=some (.nils):=rfl
@[go_sem] theorem ZFm:zv Tryz.prog 137=some (.agg [.int .i64 0,.str [],.nils,.nils]):=rfl
@[go_sem] theorem ZG5:zv Tryz.prog 147=some (.agg [.bool false]):=rfl
@[go_sem] theorem ZE3:zv Tryz.prog 184=some (.agg [.nilp,.nils]):=rfl
@[go_sem] theorem ZIY:zv Tryz.prog 194=some (.nilp):=rfl
@[go_sem] theorem ZJi:zv Tryz.prog 198=some (.agg [.str [],.str [],.bool false,.bool false,.bool false,.bool false,.nils,.nils,.nils,.nils]):=rfl
@[go_sem] theorem ZJV:zv Tryz.prog 203=some (.agg [.str [],.nils]):=rfl
@[go_sem] theorem ZHT:zv Tryz.prog 208=some (.agg [.str [],.int .i64 0,.str [],.bool false,.int .i64 0,.int .i64 0,.str [],.nils,.nils]):=rfl
@[go_sem] theorem ZGj:zv Tryz.prog 212=some (.agg [.str [],.int .i64 0,.str [],.str [],.bool false,.int .i64 0,.bool false]):=rfl
@[go_sem] theorem ZJc:zv Tryz.prog 220=some (.agg [.nils,.nils]):=rfl
@[go_sem] theorem ZHe:zv Tryz.prog 242=some (.agg [.nils,.nils,.nils,.nils,.nilm,.nilm,.nilm]):=rfl
@[go_sem] theorem ZGW:zv Tryz.prog 243=some (.nils):=rfl
@[go_sem] theorem ZJs:zv Tryz.prog 248=some (.agg [.str [],.str [],.int .i64 0,.str [],.bool false,.int .i64 0,.int .i64 0,.str [],.nils,.nils]):=rfl
@[go_sem] theorem ZKW:zv Tryz.prog 25=some (.agg [.nils,.int .i64 0]):=rfl
@[go_sem] theorem ZII:zv Tryz.prog 252=some (.agg [.str [],.str [],.int .i64 0,.int .i64 0,.int .i64 0]):=rfl
@[go_sem] theorem ZI3:zv Tryz.prog 277=some (.agg [.int .i64 0,.int .i64 0,.int .i64 0,.int .i64 0,.int .i64 0,.str [],.str [],.str [],.bool false,.nils,.nils,.nils,.nils]):=rfl
@[go_sem] theorem ZLu:zv Tryz.prog 28=some (.agg [.nils]):=rfl
@[go_sem] theorem ZI4:zv Tryz.prog 281=some (.nilf):=rfl
@[go_sem] theorem ZL6:zv Tryz.prog 3=some (.int .i64 0):=rfl
@[go_sem] theorem ZLs:zv Tryz.prog 32=some (.agg [.nils]):=rfl
@[go_sem] theorem ZFr:zv Tryz.prog 324=some (.agg [.str [],.str [],.int .i64 0,.str [],.bool false]):=rfl
@[go_sem] theorem ZGy:zv Tryz.prog 366=some (.agg [.nils,.nils]):=rfl
@[go_sem] theorem ZGU:zv Tryz.prog 369=some (.agg [.str [],.str [],.int .i64 0]):=rfl
@[go_sem] theorem ZFL:zv Tryz.prog 397=some (.agg [.int .i64 0,.int .i64 0,.int .i64 0]):=rfl
@[go_sem] theorem ZFT:zv Tryz.prog 418=some (.agg [.str [],.bool false,.bool false]):=rfl
@[go_sem] theorem ZJ2:zv Tryz.prog 428=some (.agg [.int .i64 0,.int .i64 0,.int .i64 0,.int .i64 0,.int .i64 0,.int .i64 0]):=rfl
@[go_sem] theorem ZE6:zv Tryz.prog 439=some (.int .u64 0):=rfl
@[go_sem] theorem ZLD:zv Tryz.prog 44=some (.nils):=rfl
@[go_sem] theorem ZKy:zv Tryz.prog 48=some (.agg [.str [],.nils,.nils,.nils,.nils]):=rfl
@[go_sem] theorem ZLn:zv Tryz.prog 53=some (.agg [.str [],.nils,.str []]):=rfl
@[go_sem] theorem ZKX:zv Tryz.prog 55=some (.agg [.int .i64 0,.int .i64 0,.str []]):=rfl
@[go_sem] theorem ZK3:zv Tryz.prog 57=some (.agg [.str [],.int .i64 0,.bool false,.int .i64 0,.int .i64 0,.str []]):=rfl
@[go_sem] theorem ZKc:zv Tryz.prog 79=some (.agg [.str [],.nils]):=rfl
@[go_sem] theorem ZK8:zv Tryz.prog 86=some (.nils):=rfl
@[go_sem] theorem ZKs:zv Tryz.prog 89=some (.agg [.str [],.nils,.bool false]):=rfl
@[go_sem] theorem ZMc:zv Tryz.prog 9=some (.str []):=rfl
@[go_sem] theorem ZKC:zv Tryz.prog 93=some (.agg [.nils,.nils]):=rfl
@[go_sem] theorem ZL9:zv Tryz.prog 4=some (.bool false):=rfl
@[go_sem] theorem ZCh:K.live 3 0=some ([3,4,5,16,17],[],[])∧K.out 3 0=some [3,4,5]:=⟨rfl,rfl⟩
@[go_sem] theorem ZBn:K.live 3 1=none∧K.out 3 1=none:=⟨rfl,rfl⟩
@[go_sem] theorem Zzd:K.dyn 3 11=[]:=rfl
@[go_sem] theorem ZCq:K.live 4 0=some ([0,2,3,16,17],[(3,some 0,5,false)],[])∧K.out 4 0=some [0,2,3]:=⟨rfl,rfl⟩
@[go_sem] theorem ZBm:K.live 4 1=none∧K.out 4 1=none:=⟨rfl,rfl⟩
@[go_sem] theorem ZB3:K.live 4 2=some ([0,2,3,34,35],[],[])∧K.out 4 2=some [2,3]:=⟨rfl,rfl⟩
@[go_sem] theorem Zy6:K.live 4 3=none∧K.out 4 3=none:=⟨rfl,rfl⟩
@[go_sem] theorem ZAE:K.live 4 4=some ([0,2,3,5,6,7,34,35,67,68,69],[(7,some 1,1,false)],[])∧K.out 4 4=some [0,2,3,5,7,34,35]:=⟨rfl,rfl⟩
@[go_sem] theorem ZBD:K.live 4 5=none∧K.out 4 5=none:=⟨rfl,rfl⟩
@[go_sem] theorem ZBU:K.live 4 6=some ([0,2,3,5,6,7,10,34,35,67,68,69,85,86,87],[],[])∧K.out 4 6=some [0,2,3,5,6,7,34,35,67,68,69]:=⟨rfl,rfl⟩
@[go_sem] theorem ZA6:K.live 4 7=none∧K.out 4 7=none:=⟨rfl,rfl⟩
@[go_sem] theorem ZCA:K.dyn 4 5=[(8,20)]:=rfl
@[go_sem] theorem ZEj:K.dyn 4 9=[(6,37),(6,45),(6,48),(14,37),(14,38),(14,45)]:=rfl
@[go_sem] theorem ZzK:K.dyn 4 10=[]:=rfl
@[go_sem] theorem ZBr:K.dyn 4 14=[(5,73)]:=rfl
@[go_sem] theorem ZBs:K.dyn 4 24=[]:=rfl
@[go_sem] theorem Zz4:K.dyn 4 25=[(7,132),(7,7),(7,140),(10,132)]:=rfl
@[go_sem] theorem ZzL:K.live 5 0=some ([0,2,4,6,7,8,22],[],[])∧K.out 5 0=some [6,7]:=⟨rfl,rfl⟩
@[go_sem] theorem ZAl:K.live 5 1=none∧K.out 5 1=none:=⟨rfl,rfl⟩
@[go_sem] theorem Zzs:K.live 5 2=some ([0,2,4,6,7,8,22,24,25,26],[],[])∧K.out 5 2=some [0,2,4,6,7,8,22]:=⟨rfl,rfl⟩
@[go_sem] theorem Zzv:K.live 5 3=none∧K.out 5 3=none:=⟨rfl,rfl⟩
@[go_sem] theorem ZBV:K.live 5 4=some ([0,2,4,6,7,8,11,22,24,25,26,33,34],[],[])∧K.out 5 4=some [0,2,4,6,7,8,22,24,25,26]:=⟨rfl,rfl⟩
@[go_sem] theorem Zz5:K.live 5 5=none∧K.out 5 5=none:=⟨rfl,rfl⟩
@[go_sem] theorem ZBg:K.dyn 5 10=[(10,46),(11,47)]:=rfl
@[go_sem] theorem ZB9:K.live 7 0=none∧K.out 7 0=none:=⟨rfl,rfl⟩
@[go_sem] theorem ZAm:K.live 7 1=none∧K.out 7 1=none:=⟨rfl,rfl⟩
@[go_sem] theorem ZEb:K.dyn 7 4=[(6,16)]:=rfl
@[go_sem] theorem ZD8:K.dyn 7 7=[(12,41)]:=rfl
@[go_sem] theorem ZBv:K.dyn 7 10=[(16,66),(16,67),(16,69),(18,66),(18,67),(18,69)]:=rfl
@[go_sem] theorem ZBC:K.dyn 7 14=[]:=rfl
@[go_sem] theorem ZBB:K.dyn 7 16=[(14,113)]:=rfl
@[go_sem] theorem ZA2:K.live 9 0=none∧K.out 9 0=none:=⟨rfl,rfl⟩
@[go_sem] theorem ZC2:K.dyn 9 4=[(6,15)]:=rfl
@[go_sem] theorem ZDS:K.dyn 9 7=[(10,35),(12,35)]:=rfl
@[go_sem] theorem Zy0:K.dyn 9 13=[(10,75),(12,75)]:=rfl
@[go_sem] theorem ZzF:K.dyn 9 15=[(10,92),(13,92)]:=rfl
@[go_sem] theorem ZAD:K.dyn 9 19=[(5,129),(5,130),(5,131),(8,129),(8,130),(8,131),(16,124),(16,127),(16,129),(16,130),(16,131)]:=rfl
@[go_sem] theorem ZzW:K.dyn 9 21=[(5,160),(5,161),(8,160),(8,161),(13,150),(13,153),(13,160),(13,161),(20,150),(20,153),(20,155),(20,158),(20,160),(20,161)]:=rfl
@[go_sem] theorem Zyg:K.live 11 0=some ([2,3,7,38,39,40],[],[])∧K.out 11 0=some [2,3,7]:=⟨rfl,rfl⟩
@[go_sem] theorem ZxN:K.live 11 1=none∧K.out 11 1=none:=⟨rfl,rfl⟩
@[go_sem] theorem ZxD:K.live 11 2=some ([2,3,7,8,9,38,39,40,54,55,56],[],[])∧K.out 11 2=some [2,3,7,38,39,40]:=⟨rfl,rfl⟩
@[go_sem] theorem ZyP:K.live 11 3=none∧K.out 11 3=none:=⟨rfl,rfl⟩
@[go_sem] theorem Zxz:K.live 14 0=some ([0,4,5,33,34],[],[])∧K.out 14 0=some [0,4,5]:=⟨rfl,rfl⟩
@[go_sem] theorem ZwP:K.live 14 1=none∧K.out 14 1=none:=⟨rfl,rfl⟩
@[go_sem] theorem ZwK:K.live 14 2=some ([0,4,5,51,52],[(5,some 4,3,false)],[])∧K.out 14 2=some [4,5]:=⟨rfl,rfl⟩
@[go_sem] theorem Zyr:K.live 14 3=none∧K.out 14 3=none:=⟨rfl,rfl⟩
@[go_sem] theorem ZyV:K.live 14 4=some ([0,4,5,8,51,52,74,75,76],[(8,some 1,1,false)],[])∧K.out 14 4=some [0,4,5,8,51,52]:=⟨rfl,rfl⟩
@[go_sem] theorem ZyK:K.live 14 5=none∧K.out 14 5=none:=⟨rfl,rfl⟩
@[go_sem] theorem ZzT:K.dyn 14 3=[(4,18)]:=rfl
@[go_sem] theorem ZzC:K.dyn 14 8=[(8,37)]:=rfl
@[go_sem] theorem Zyt:K.dyn 14 14=[(4,69),(10,73)]:=rfl
@[go_sem] theorem Zw0:K.dyn 14 17=[]:=rfl
@[go_sem] theorem ZCc:K.dyn 15 4=[]:=rfl
@[go_sem] theorem ZBt:K.dyn 15 5=[]:=rfl
@[go_sem] theorem ZyU:K.live 16 0=some ([0,1,7,8],[],[])∧K.out 16 0=some []:=⟨rfl,rfl⟩
@[go_sem] theorem Zxr:K.live 16 1=none∧K.out 16 1=none:=⟨rfl,rfl⟩
@[go_sem] theorem Zyn:K.live 22 0=some ([1,19,20,21],[],[])∧K.out 22 0=some [1]:=⟨rfl,rfl⟩
@[go_sem] theorem ZxM:K.live 22 1=none∧K.out 22 1=none:=⟨rfl,rfl⟩
@[go_sem] theorem Zxu:K.live 22 2=some ([1,49,50,51],[],[])∧K.out 22 2=some []:=⟨rfl,rfl⟩
@[go_sem] theorem ZxK:K.live 22 3=none∧K.out 22 3=none:=⟨rfl,rfl⟩
@[go_sem] theorem ZwD:K.live 22 4=some ([1,8,49,50,51,56,57,58],[],[])∧K.out 22 4=some [1,49,50,51]:=⟨rfl,rfl⟩
@[go_sem] theorem ZwN:K.live 22 5=none∧K.out 22 5=none:=⟨rfl,rfl⟩
@[go_sem] theorem Zxo:K.live 22 6=some ([1,8,10,11,49,50,51,56,57,58,84,85,86],[],[])∧K.out 22 6=some [1,8,49,50,51,56,57,58]:=⟨rfl,rfl⟩
@[go_sem] theorem ZxC:K.live 22 7=none∧K.out 22 7=none:=⟨rfl,rfl⟩
@[go_sem] theorem Zzm:K.dyn 22 6=[]:=rfl
@[go_sem] theorem ZwE:K.dyn 22 22=[]:=rfl
@[go_sem] theorem Zxf:K.dyn 22 27=[]:=rfl
@[go_sem] theorem Zxk:K.live 23 0=some ([3,10,11,12],[(3,some 1,2,true)],[])∧K.out 23 0=some [3]:=⟨rfl,rfl⟩
@[go_sem] theorem Zxd:K.live 23 1=none∧K.out 23 1=none:=⟨rfl,rfl⟩
@[go_sem] theorem ZAY:K.dyn 23 5=[]:=rfl
@[go_sem] theorem ZBp:K.dyn 24 1=[]:=rfl
@[go_sem] theorem ZxF:K.live 25 0=some ([1,2,3,4,14,15,16],[(3,none,1,false)],[])∧K.out 25 0=some [1,2,3,4]:=⟨rfl,rfl⟩
@[go_sem] theorem Zyy:K.live 25 1=none∧K.out 25 1=none:=⟨rfl,rfl⟩
@[go_sem] theorem ZyA:K.live 25 2=some ([1,2,3,4,5,6,14,15,16,23,24],[(3,none,1,false)],[])∧K.out 25 2=some [1,2,3,4,14,15,16]:=⟨rfl,rfl⟩
@[go_sem] theorem ZxI:K.live 25 3=none∧K.out 25 3=none:=⟨rfl,rfl⟩
@[go_sem] theorem ZxH:K.live 25 4=some ([1,2,3,4],[],[])∧K.out 25 4=some [2,3]:=⟨rfl,rfl⟩
@[go_sem] theorem Zyb:K.live 25 5=none∧K.out 25 5=none:=⟨rfl,rfl⟩
@[go_sem] theorem ZwG:K.live 25 6=some ([1,2,3,4,69,70,71],[],[])∧K.out 25 6=some [1,2,3,4]:=⟨rfl,rfl⟩
@[go_sem] theorem Zx4:K.live 25 7=none∧K.out 25 7=none:=⟨rfl,rfl⟩
@[go_sem] theorem Zxv:K.live 27 0=some ([0,5,10,11,12],[(5,none,3,true)],[])∧K.out 27 0=some [5]:=⟨rfl,rfl⟩
@[go_sem] theorem ZyJ:K.live 27 1=none∧K.out 27 1=none:=⟨rfl,rfl⟩
@[go_sem] theorem Zxc:K.live 28 0=some ([0,2,15,16,17],[],[])∧K.out 28 0=some [0,2]:=⟨rfl,rfl⟩
@[go_sem] theorem ZyZ:K.live 28 1=none∧K.out 28 1=none:=⟨rfl,rfl⟩
@[go_sem] theorem ZAz:K.dyn 28 6=[]:=rfl
@[go_sem] theorem Zx1:K.live 32 0=some ([0,2,3],[],[])∧K.out 32 0=some []:=⟨rfl,rfl⟩
@[go_sem] theorem ZwV:K.live 32 1=none∧K.out 32 1=none:=⟨rfl,rfl⟩
@[go_sem] theorem ZBT:K.dyn 32 3=[]:=rfl
@[go_sem] theorem Zye:K.live 33 0=none∧K.out 33 0=none:=⟨rfl,rfl⟩
@[go_sem] theorem ZwQ:K.live 41 0=some ([1,2,15,16,17],[],[])∧K.out 41 0=some []:=⟨rfl,rfl⟩
@[go_sem] theorem Zyp:K.live 41 1=none∧K.out 41 1=none:=⟨rfl,rfl⟩
@[go_sem] theorem Zw4:K.live 43 0=some ([1,7,8],[],[])∧K.out 43 0=some []:=⟨rfl,rfl⟩
@[go_sem] theorem Zx6:K.live 43 1=none∧K.out 43 1=none:=⟨rfl,rfl⟩
@[go_sem] theorem ZA1:K.dyn 44 1=[]:=rfl
@[go_sem] theorem Zx9:K.live 46 0=some ([2,3,7,8,12,13,14],[(8,none,3,false)],[])∧K.out 46 0=some [7,8]:=⟨rfl,rfl⟩
@[go_sem] theorem ZwH:K.live 46 1=none∧K.out 46 1=none:=⟨rfl,rfl⟩
@[go_sem] theorem ZBH:K.dyn 48 2=[]:=rfl
@[go_sem] theorem ZAj:K.dyn 50 1=[]:=rfl
@[go_sem] theorem ZwL:K.live 51 0=some ([2,3,4,23,24,25],[],[])∧K.out 51 0=some [2,3,4]:=⟨rfl,rfl⟩
@[go_sem] theorem ZxQ:K.live 51 1=none∧K.out 51 1=none:=⟨rfl,rfl⟩
@[go_sem] theorem ZyX:K.live 51 2=some ([2,4,41,42,43],[],[])∧K.out 51 2=some []:=⟨rfl,rfl⟩
@[go_sem] theorem ZwT:K.live 51 3=none∧K.out 51 3=none:=⟨rfl,rfl⟩
@[go_sem] theorem Zyz:K.live 51 4=some ([2,4,9,10,41,42,43,61,62,63],[],[])∧K.out 51 4=some [2,4,9,10,41,42,43]:=⟨rfl,rfl⟩
@[go_sem] theorem Zxy:K.live 51 5=none∧K.out 51 5=none:=⟨rfl,rfl⟩
@[go_sem] theorem ZBx:K.dyn 51 6=[]:=rfl
@[go_sem] theorem Zxe:K.dyn 51 22=[]:=rfl
@[go_sem] theorem ZxE:K.live 52 0=some ([2,3,5,25,26,27],[],[])∧K.out 52 0=some [2,3,5]:=⟨rfl,rfl⟩
@[go_sem] theorem Zxt:K.live 52 1=none∧K.out 52 1=none:=⟨rfl,rfl⟩
@[go_sem] theorem Zxm:K.live 52 2=some ([2,3,5,6,7,25,26,27,41,42,43],[],[])∧K.out 52 2=some [2,3,5,25,26,27]:=⟨rfl,rfl⟩
@[go_sem] theorem Zym:K.live 52 3=none∧K.out 52 3=none:=⟨rfl,rfl⟩
@[go_sem] theorem ZxW:K.live 52 4=some ([2,3,5,64,65,66],[],[])∧K.out 52 4=some []:=⟨rfl,rfl⟩
@[go_sem] theorem ZyY:K.live 52 5=none∧K.out 52 5=none:=⟨rfl,rfl⟩
@[go_sem] theorem Zyh:K.live 52 6=some ([2,3,5,12,13,64,65,66,72,73,74],[],[])∧K.out 52 6=some [2,3,5,64,65,66]:=⟨rfl,rfl⟩
@[go_sem] theorem Zxj:K.live 52 7=none∧K.out 52 7=none:=⟨rfl,rfl⟩
@[go_sem] theorem Zw5:K.live 52 8=some ([2,3,5,12,13,15,64,65,66,72,73,74,83,84,85],[],[])∧K.out 52 8=some [2,3,5,12,13,64,65,66,72,73,74]:=⟨rfl,rfl⟩
@[go_sem] theorem ZxP:K.live 52 9=none∧K.out 52 9=none:=⟨rfl,rfl⟩
@[go_sem] theorem ZwF:K.dyn 52 10=[]:=rfl
@[go_sem] theorem ZyC:K.dyn 52 23=[]:=rfl
@[go_sem] theorem Zxw:K.live 54 0=some ([0,1,5,9,10],[(5,none,1,true)],[])∧K.out 54 0=some [0,1,5]:=⟨rfl,rfl⟩
@[go_sem] theorem Zyc:K.live 54 1=none∧K.out 54 1=none:=⟨rfl,rfl⟩
@[go_sem] theorem ZxO:K.live 54 2=some ([0,5,7],[],[])∧K.out 54 2=some [5]:=⟨rfl,rfl⟩
@[go_sem] theorem ZyI:K.live 54 3=none∧K.out 54 3=none:=⟨rfl,rfl⟩
@[go_sem] theorem ZwC:K.dyn 54 11=[]:=rfl
@[go_sem] theorem ZxZ:K.live 56 0=some ([0,1,7,8],[],[])∧K.out 56 0=some []:=⟨rfl,rfl⟩
@[go_sem] theorem Zyi:K.live 56 1=none∧K.out 56 1=none:=⟨rfl,rfl⟩
@[go_sem] theorem ZyW:K.live 57 0=some ([0,1,7,8],[],[])∧K.out 57 0=some []:=⟨rfl,rfl⟩
@[go_sem] theorem Zxp:K.live 57 1=none∧K.out 57 1=none:=⟨rfl,rfl⟩
@[go_sem] theorem Zxa:K.live 59 0=none∧K.out 59 0=none:=⟨rfl,rfl⟩
@[go_sem] theorem Zxq:K.live 60 0=some ([1,41,42,43],[],[])∧K.out 60 0=some [1]:=⟨rfl,rfl⟩
@[go_sem] theorem ZxS:K.live 60 1=none∧K.out 60 1=none:=⟨rfl,rfl⟩
@[go_sem] theorem Zx8:K.live 60 2=none∧K.out 60 2=none:=⟨rfl,rfl⟩
@[go_sem] theorem ZwR:K.live 60 3=some ([1,77,78,79],[],[])∧K.out 60 3=some [1]:=⟨rfl,rfl⟩
@[go_sem] theorem Zyd:K.live 60 4=none∧K.out 60 4=none:=⟨rfl,rfl⟩
@[go_sem] theorem ZwU:K.live 60 5=none∧K.out 60 5=none:=⟨rfl,rfl⟩
@[go_sem] theorem ZyE:K.live 60 6=some ([1,106,107,108],[],[])∧K.out 60 6=some [1]:=⟨rfl,rfl⟩
@[go_sem] theorem Zyf:K.live 60 7=none∧K.out 60 7=none:=⟨rfl,rfl⟩
@[go_sem] theorem ZxJ:K.live 60 8=some ([1,138,139,140],[],[])∧K.out 60 8=some []:=⟨rfl,rfl⟩
@[go_sem] theorem Zxn:K.live 60 9=none∧K.out 60 9=none:=⟨rfl,rfl⟩
@[go_sem] theorem ZvJ:K.live 60 10=none∧K.out 60 10=none:=⟨rfl,rfl⟩
@[go_sem] theorem ZAg:K.dyn 60 8=[]:=rfl
@[go_sem] theorem ZxV:K.dyn 60 30=[]:=rfl
@[go_sem] theorem ZwS:K.dyn 60 40=[]:=rfl
@[go_sem] theorem Zyu:K.live 62 0=some ([2,3,7,8,9],[(3,some 0,2,true)],[])∧K.out 62 0=some [2,3]:=⟨rfl,rfl⟩
@[go_sem] theorem ZyM:K.live 62 1=none∧K.out 62 1=none:=⟨rfl,rfl⟩
@[go_sem] theorem ZzB:K.dyn 62 5=[(6,13),(6,15),(8,13)]:=rfl
@[go_sem] theorem ZyO:K.live 63 0=some ([1,3,4,18,19,20],[],[])∧K.out 63 0=some [3,4]:=⟨rfl,rfl⟩
@[go_sem] theorem ZwI:K.live 63 1=none∧K.out 63 1=none:=⟨rfl,rfl⟩
@[go_sem] theorem Zya:K.live 63 2=some ([1,3,4,5,18,19,20,31,32,33],[],[])∧K.out 63 2=some [1,3,4,18,19,20]:=⟨rfl,rfl⟩
@[go_sem] theorem ZyN:K.live 63 3=none∧K.out 63 3=none:=⟨rfl,rfl⟩
@[go_sem] theorem Zyk:K.live 63 4=some ([3,4,48,49],[],[])∧K.out 63 4=some [4]:=⟨rfl,rfl⟩
@[go_sem] theorem Zx2:K.live 63 5=none∧K.out 63 5=none:=⟨rfl,rfl⟩
@[go_sem] theorem Zw7:K.live 63 6=some ([3,4,9,48,49,52,53],[],[])∧K.out 63 6=some [3,4,48,49]:=⟨rfl,rfl⟩
@[go_sem] theorem ZyS:K.live 63 7=none∧K.out 63 7=none:=⟨rfl,rfl⟩
@[go_sem] theorem ZyD:K.live 63 8=some ([3,4,9,10,48,49,52,53,56,57],[],[])∧K.out 63 8=some [3,4,9,48,49,52,53]:=⟨rfl,rfl⟩
@[go_sem] theorem ZxT:K.live 63 9=none∧K.out 63 9=none:=⟨rfl,rfl⟩
@[go_sem] theorem Zyl:K.dyn 63 10=[]:=rfl
@[go_sem] theorem ZwX:K.dyn 63 22=[]:=rfl
@[go_sem] theorem ZAw:K.dyn 65 2=[]:=rfl
@[go_sem] theorem ZyQ:K.live 67 0=none∧K.out 67 0=none:=⟨rfl,rfl⟩
@[go_sem] theorem Zyv:K.live 70 0=none∧K.out 70 0=none:=⟨rfl,rfl⟩
@[go_sem] theorem Zxx:K.live 71 0=some ([0,3,4,18,19],[],[])∧K.out 71 0=some [4]:=⟨rfl,rfl⟩
@[go_sem] theorem ZxA:K.live 71 1=none∧K.out 71 1=none:=⟨rfl,rfl⟩
@[go_sem] theorem ZzN:K.dyn 71 2=[(2,9),(7,7),(7,10)]:=rfl
@[go_sem] theorem ZwM:K.live 83 0=some ([6,7,8],[],[])∧K.out 83 0=some []:=⟨rfl,rfl⟩
@[go_sem] theorem Zyj:K.live 83 1=none∧K.out 83 1=none:=⟨rfl,rfl⟩
@[go_sem] theorem ZAp:K.dyn 89 1=[]:=rfl
@[go_sem] theorem Zze:K.dyn 91 1=[]:=rfl
@[go_sem] theorem ZxX:K.live 93 0=none∧K.out 93 0=none:=⟨rfl,rfl⟩
@[go_sem] theorem ZAs:K.dyn 93 1=[]:=rfl
@[go_sem] theorem ZBh:K.dyn 95 1=[]:=rfl
@[go_sem] theorem ZyB:K.live 97 0=some ([3,8,9,10],[(3,none,1,false)],[])∧K.out 97 0=some [3]:=⟨rfl,rfl⟩
@[go_sem] theorem Zyw:K.live 97 1=none∧K.out 97 1=none:=⟨rfl,rfl⟩
@[go_sem] theorem Zyq:K.live 97 2=none∧K.out 97 2=none:=⟨rfl,rfl⟩
@[go_sem] theorem Zx3:K.live 97 3=some ([3,6,7,8,9,10],[(3,none,1,false)],[])∧K.out 97 3=some [3,8,9,10]:=⟨rfl,rfl⟩
@[go_sem] theorem ZxU:K.live 97 4=none∧K.out 97 4=none:=⟨rfl,rfl⟩
@[go_sem] theorem Zw2:K.live 99 0=some ([2,3,16,17,18],[],[])∧K.out 99 0=some []:=⟨rfl,rfl⟩
@[go_sem] theorem ZwW:K.live 99 1=none∧K.out 99 1=none:=⟨rfl,rfl⟩
@[go_sem] theorem ZBz:K.dyn 99 6=[]:=rfl
@[go_sem] theorem Zu0:K.live 100 0=some ([1,2,5],[],[])∧K.out 100 0=some [1,2]:=⟨rfl,rfl⟩
@[go_sem] theorem Zt1:K.live 100 1=none∧K.out 100 1=none:=⟨rfl,rfl⟩
@[go_sem] theorem Zuc:K.live 100 2=none∧K.out 100 2=none:=⟨rfl,rfl⟩
@[go_sem] theorem ZwJ:K.dyn 100 4=[]:=rfl
@[go_sem] theorem Zx0:K.dyn 100 5=[]:=rfl
@[go_sem] theorem Zvl:K.live 101 0=some ([1,3,8,9,13,14,15],[(8,none,3,true)],[])∧K.out 101 0=some [8,9]:=⟨rfl,rfl⟩
@[go_sem] theorem Zul:K.live 101 1=none∧K.out 101 1=none:=⟨rfl,rfl⟩
@[go_sem] theorem Zx5:K.dyn 101 7=[]:=rfl
@[go_sem] theorem Zvy:K.live 105 0=some ([1,2,7,8,9],[],[])∧K.out 105 0=some []:=⟨rfl,rfl⟩
@[go_sem] theorem Zwe:K.live 105 1=none∧K.out 105 1=none:=⟨rfl,rfl⟩
@[go_sem] theorem ZvL:K.live 107 0=some ([0,1,7,8],[],[])∧K.out 107 0=some []:=⟨rfl,rfl⟩
@[go_sem] theorem Zuz:K.live 107 1=none∧K.out 107 1=none:=⟨rfl,rfl⟩
@[go_sem] theorem Zxi:K.dyn 108 6=[(15,33),(15,34)]:=rfl
@[go_sem] theorem Zvk:K.live 109 0=some ([0,6,37,38,39],[],[])∧K.out 109 0=some [0,6]:=⟨rfl,rfl⟩
@[go_sem] theorem Zva:K.live 109 1=none∧K.out 109 1=none:=⟨rfl,rfl⟩
@[go_sem] theorem ZvV:K.live 109 2=some ([0,6,52,53,54],[],[])∧K.out 109 2=some [0,6]:=⟨rfl,rfl⟩
@[go_sem] theorem ZuB:K.live 109 3=none∧K.out 109 3=none:=⟨rfl,rfl⟩
@[go_sem] theorem ZvY:K.dyn 109 19=[(7,66)]:=rfl
@[go_sem] theorem Zvc:K.dyn 109 23=[]:=rfl
@[go_sem] theorem Zuv:K.live 110 0=none∧K.out 110 0=none:=⟨rfl,rfl⟩
@[go_sem] theorem Zwr:K.live 171 0=none∧K.out 171 0=none:=⟨rfl,rfl⟩
@[go_sem] theorem Zww:K.live 183 0=none∧K.out 183 0=none:=⟨rfl,rfl⟩
@[go_sem] theorem Zw3:K.dyn 185 1=[]:=rfl
@[go_sem] theorem ZyF:K.dyn 186 2=[]:=rfl
@[go_sem] theorem Zum:K.live 187 0=none∧K.out 187 0=none:=⟨rfl,rfl⟩
@[go_sem] theorem Zuk:K.live 191 0=some ([1,2,14,15,16],[],[])∧K.out 191 0=some []:=⟨rfl,rfl⟩
@[go_sem] theorem Zuf:K.live 191 1=none∧K.out 191 1=none:=⟨rfl,rfl⟩
@[go_sem] theorem Zwu:K.live 191 2=some ([1,2,6,7,14,15,16,21,22,23],[],[])∧K.out 191 2=some [1,2,14,15,16]:=⟨rfl,rfl⟩
@[go_sem] theorem ZuJ:K.live 191 3=none∧K.out 191 3=none:=⟨rfl,rfl⟩
@[go_sem] theorem Zt2:K.live 192 0=some ([3,7,8,9],[(3,none,1,false)],[])∧K.out 192 0=some [3]:=⟨rfl,rfl⟩
@[go_sem] theorem Zu6:K.live 192 1=none∧K.out 192 1=none:=⟨rfl,rfl⟩
@[go_sem] theorem ZvT:K.live 192 2=none∧K.out 192 2=none:=⟨rfl,rfl⟩
@[go_sem] theorem ZuU:K.live 192 3=some ([3,5,6,7,8,9],[(3,none,1,false)],[])∧K.out 192 3=some [3,7,8,9]:=⟨rfl,rfl⟩
@[go_sem] theorem Zvz:K.live 192 4=none∧K.out 192 4=none:=⟨rfl,rfl⟩
@[go_sem] theorem Zvt:K.live 195 0=none∧K.out 195 0=none:=⟨rfl,rfl⟩
@[go_sem] theorem Zun:K.live 196 0=some ([0,12,13,14],[],[])∧K.out 196 0=some []:=⟨rfl,rfl⟩
@[go_sem] theorem ZvE:K.live 196 1=none∧K.out 196 1=none:=⟨rfl,rfl⟩
@[go_sem] theorem Zvv:K.live 197 0=some ([0,23,24,25],[],[])∧K.out 197 0=some []:=⟨rfl,rfl⟩
@[go_sem] theorem Zui:K.live 197 1=none∧K.out 197 1=none:=⟨rfl,rfl⟩
@[go_sem] theorem ZvF:K.live 197 2=some ([0,5,6,23,24,25,53,54,55],[],[])∧K.out 197 2=some [0,5,6,23,24,25]:=⟨rfl,rfl⟩
@[go_sem] theorem ZuW:K.live 197 3=none∧K.out 197 3=none:=⟨rfl,rfl⟩
@[go_sem] theorem Zu9:K.live 197 4=some ([0,5,6,10,23,24,25,53,54,55,60,61,62],[],[])∧K.out 197 4=some [0,5,6,23,24,25,53,54,55]:=⟨rfl,rfl⟩
@[go_sem] theorem ZvP:K.live 197 5=none∧K.out 197 5=none:=⟨rfl,rfl⟩
@[go_sem] theorem ZuP:K.live 197 6=some ([0,5,6,23,24,25,105,106,107],[],[])∧K.out 197 6=some [0,5,6,23,24,25]:=⟨rfl,rfl⟩
@[go_sem] theorem Zwy:K.live 197 7=none∧K.out 197 7=none:=⟨rfl,rfl⟩
@[go_sem] theorem Zwx:K.live 197 8=some ([0,5,6,23,24,25,137,138,139],[],[])∧K.out 197 8=some [0,23,24,25]:=⟨rfl,rfl⟩
@[go_sem] theorem Zwf:K.live 197 9=none∧K.out 197 9=none:=⟨rfl,rfl⟩
@[go_sem] theorem Zxg:K.dyn 197 5=[]:=rfl
@[go_sem] theorem ZvB:K.dyn 197 13=[]:=rfl
@[go_sem] theorem ZuQ:K.dyn 197 18=[]:=rfl
@[go_sem] theorem Zus:K.dyn 197 24=[]:=rfl
@[go_sem] theorem Zu5:K.dyn 197 31=[]:=rfl
@[go_sem] theorem Zv3:K.live 198 0=some ([0,1,4,6,21,22,23],[],[])∧K.out 198 0=some [0,1,4]:=⟨rfl,rfl⟩
@[go_sem] theorem ZvO:K.live 198 1=none∧K.out 198 1=none:=⟨rfl,rfl⟩
@[go_sem] theorem Zwl:K.live 198 2=some ([0,1,4,10,47,48,49],[],[])∧K.out 198 2=some [0,1,4,10]:=⟨rfl,rfl⟩
@[go_sem] theorem Zvf:K.live 198 3=none∧K.out 198 3=none:=⟨rfl,rfl⟩
@[go_sem] theorem Zt7:K.live 198 4=some ([0,4,10,98,99,100],[],[])∧K.out 198 4=some [4,10]:=⟨rfl,rfl⟩
@[go_sem] theorem Zwh:K.live 198 5=none∧K.out 198 5=none:=⟨rfl,rfl⟩
@[go_sem] theorem Zwm:K.dyn 198 15=[]:=rfl
@[go_sem] theorem Zut:K.dyn 198 16=[(13,68),(13,69)]:=rfl
@[go_sem] theorem ZvZ:K.dyn 198 18=[(7,82)]:=rfl
@[go_sem] theorem ZvD:K.dyn 198 26=[]:=rfl
@[go_sem] theorem Zt0:K.dyn 198 28=[(13,114)]:=rfl
@[go_sem] theorem Zwk:K.dyn 198 29=[(14,144)]:=rfl
@[go_sem] theorem Zv4:K.live 207 0=some ([0,1,8,9],[],[])∧K.out 207 0=some [0]:=⟨rfl,rfl⟩
@[go_sem] theorem Zvu:K.live 207 1=none∧K.out 207 1=none:=⟨rfl,rfl⟩
@[go_sem] theorem Zt4:K.live 280 0=none∧K.out 280 0=none:=⟨rfl,rfl⟩
@[go_sem] theorem Zt9:K.live 281 0=none∧K.out 281 0=none:=⟨rfl,rfl⟩
@[go_sem] theorem Zxl:K.dyn 281 1=[]:=rfl
@[go_sem] theorem ZwZ:K.dyn 281 4=[]:=rfl
@[go_sem] theorem ZyH:K.dyn 281 6=[(6,31)]:=rfl
@[go_sem] theorem ZuY:K.live 283 0=none∧K.out 283 0=none:=⟨rfl,rfl⟩
@[go_sem] theorem Zwi:K.live 284 0=none∧K.out 284 0=none:=⟨rfl,rfl⟩
@[go_sem] theorem ZvN:K.live 284 1=some ([1,23,24],[],[])∧K.out 284 1=some []:=⟨rfl,rfl⟩
@[go_sem] theorem Zvb:K.live 284 2=none∧K.out 284 2=none:=⟨rfl,rfl⟩
@[go_sem] theorem Zug:K.live 286 0=some ([0,1,2,11,12,13],[],[])∧K.out 286 0=some [0,1]:=⟨rfl,rfl⟩
@[go_sem] theorem Zwb:K.live 286 1=none∧K.out 286 1=none:=⟨rfl,rfl⟩
@[go_sem] theorem Zx7:K.dyn 287 1=[]:=rfl
@[go_sem] theorem Zv1:K.live 296 0=some ([6,7,8],[],[])∧K.out 296 0=some []:=⟨rfl,rfl⟩
@[go_sem] theorem ZuR:K.live 296 1=none∧K.out 296 1=none:=⟨rfl,rfl⟩
@[go_sem] theorem Zvr:K.live 297 0=some ([1,2,15,16,17],[],[])∧K.out 297 0=some []:=⟨rfl,rfl⟩
@[go_sem] theorem Zu1:K.live 297 1=none∧K.out 297 1=none:=⟨rfl,rfl⟩
@[go_sem] theorem ZyG:K.dyn 297 6=[]:=rfl
@[go_sem] theorem ZwY:K.dyn 299 5=[]:=rfl
@[go_sem] theorem Zws:K.live 376 0=some ([0,1,2,3,8],[],[])∧K.out 376 0=some []:=⟨rfl,rfl⟩
@[go_sem] theorem Zub:K.live 376 1=none∧K.out 376 1=none:=⟨rfl,rfl⟩
@[go_sem] theorem Zv7:K.live 376 2=some ([0,1,2,3,8,9],[],[])∧K.out 376 2=some [0,1,2,3,8]:=⟨rfl,rfl⟩
@[go_sem] theorem ZvS:K.live 376 3=none∧K.out 376 3=none:=⟨rfl,rfl⟩
@[go_sem] theorem ZxB:K.dyn 376 4=[(14,32)]:=rfl
@[go_sem] theorem ZyT:K.dyn 376 6=[]:=rfl
@[go_sem] theorem Zuj:K.live 391 0=some ([0,1,7,8],[],[])∧K.out 391 0=some []:=⟨rfl,rfl⟩
@[go_sem] theorem ZuD:K.live 391 1=none∧K.out 391 1=none:=⟨rfl,rfl⟩
@[go_sem] theorem ZvI:K.live 393 0=some ([0,1,12,13],[],[])∧K.out 393 0=some []:=⟨rfl,rfl⟩
@[go_sem] theorem Zv9:K.live 393 1=none∧K.out 393 1=none:=⟨rfl,rfl⟩
@[go_sem] theorem Zw9:K.dyn 393 6=[]:=rfl
@[go_sem] theorem Zvw:K.live 442 0=some ([0,1,2,6,7,8],[],[])∧K.out 442 0=some [0,1,2,6,7]:=⟨rfl,rfl⟩
@[go_sem] theorem Zv8:K.live 442 1=none∧K.out 442 1=none:=⟨rfl,rfl⟩
@[go_sem] theorem Zvq:K.live 442 2=some ([0,1,2,6],[],[])∧K.out 442 2=some []:=⟨rfl,rfl⟩
@[go_sem] theorem Zwa:K.live 442 3=none∧K.out 442 3=none:=⟨rfl,rfl⟩
@[go_sem] theorem Zt5:K.live 442 4=some ([0,1,2,6,7,8],[],[])∧K.out 442 4=some [0,1,2,6,7]:=⟨rfl,rfl⟩
@[go_sem] theorem Zue:K.live 442 5=none∧K.out 442 5=none:=⟨rfl,rfl⟩
@[go_sem] theorem ZuM:K.live 483 0=some ([0,1,4,10,11],[],[])∧K.out 483 0=some [0,1,10]:=⟨rfl,rfl⟩
@[go_sem] theorem Zv5:K.live 483 1=none∧K.out 483 1=none:=⟨rfl,rfl⟩
@[go_sem] theorem ZuL:K.live 483 2=some ([0,10,13],[],[])∧K.out 483 2=some []:=⟨rfl,rfl⟩
@[go_sem] theorem Zuu:K.live 483 3=none∧K.out 483 3=none:=⟨rfl,rfl⟩
@[go_sem] theorem Zwq:K.live 483 4=some ([0,2,4,14,15],[],[])∧K.out 483 4=some [0,2,14]:=⟨rfl,rfl⟩
@[go_sem] theorem Zwo:K.live 483 5=none∧K.out 483 5=none:=⟨rfl,rfl⟩
@[go_sem] theorem Zux:K.live 483 6=some ([0,14,17],[],[])∧K.out 483 6=some []:=⟨rfl,rfl⟩
@[go_sem] theorem ZuS:K.live 483 7=none∧K.out 483 7=none:=⟨rfl,rfl⟩
@[go_sem] theorem ZwB:K.live 483 8=some ([0,1,2,3,4,18,19,20,21,22],[],[])∧K.out 483 8=some [0,1,2,3,4,18,19,20]:=⟨rfl,rfl⟩
@[go_sem] theorem ZuE:K.live 483 9=none∧K.out 483 9=none:=⟨rfl,rfl⟩
@[go_sem] theorem ZxR:K.dyn 483 5=[(9,49)]:=rfl
@[go_sem] theorem ZvQ:K.dyn 483 11=[]:=rfl
@[go_sem] theorem ZuC:K.dyn 483 17=[(9,101)]:=rfl
@[go_sem] theorem ZvR:K.dyn 483 23=[]:=rfl
@[go_sem] theorem Zvn:K.dyn 483 35=[(11,169)]:=rfl
@[go_sem] theorem Zwn:K.live 495 0=some ([0,2,4,10,11],[],[])∧K.out 495 0=some [0,2,4,10]:=⟨rfl,rfl⟩
@[go_sem] theorem Zwt:K.live 495 1=none∧K.out 495 1=none:=⟨rfl,rfl⟩
@[go_sem] theorem Zwp:K.live 506 0=some ([0,1,2,3,10],[],[])∧K.out 506 0=some []:=⟨rfl,rfl⟩
@[go_sem] theorem Zv0:K.live 506 1=none∧K.out 506 1=none:=⟨rfl,rfl⟩
@[go_sem] theorem Zw1:K.dyn 506 3=[]:=rfl
theorem ZqD:Zp 3 Tryz.f3:=fun _ _=>Zi rfl rfl (by decide +kernel) rfl Tryz.func3 rfl
@[go_sem] theorem ZKM:Zz 3 0 [.tmp 2]:=Zo Tryz.func3 rfl rfl
theorem Zv6:Zp 4 Tryz.f4:=fun _ _=>Zi rfl rfl (by decide +kernel) rfl Tryz.func4 rfl
@[go_sem] theorem ZKg:Zz 4 0 [.cell 2 28]:=Zo Tryz.func4 rfl rfl
theorem ZvK:Zp 5 Tryz.f5:=fun _ _=>Zi rfl rfl (by decide +kernel) rfl Tryz.func5 rfl
@[go_sem] theorem ZKu:Zz 5 0 [.cell 6 32]:=Zo Tryz.func5 rfl rfl
theorem Zvj:Zp 6 Tryz.f6:=fun _ _=>Zi rfl rfl (by decide +kernel) rfl Tryz.func6 rfl
@[go_sem] theorem ZJ8:Zz 6 0 [.tmp 4]:=Zo Tryz.func6 rfl rfl
theorem ZU:Zp 7 Tryz.f7:=fun _ _=>Zi rfl rfl (by decide +kernel) rfl Tryz.func7 rfl
@[go_sem] theorem ZLf:Zz 7 0 [.cell 4 32]:=Zo Tryz.func7 rfl rfl
theorem ZwA:Zp 8 Tryz.f8:=fun _ _=>Zi rfl rfl (by decide +kernel) rfl Tryz.func8 rfl
@[go_sem] theorem ZLw:Zz 8 0 [.tmp 4]:=Zo Tryz.func8 rfl rfl
theorem YZ:Zp 9 Tryz.f9:=fun _ _=>Zi rfl rfl (by decide +kernel) rfl Tryz.func9 rfl
@[go_sem] theorem ZKS:Zz 9 0 [.cell 4 28]:=Zo Tryz.func9 rfl rfl
theorem Zby:Zp 11 Tryz.f11:=fun _ _=>Zi rfl rfl (by decide +kernel) rfl Tryz.func11 rfl
@[go_sem] theorem ZHZ:Zz 11 0 [.tmp 4]:=Zo Tryz.func11 rfl rfl
theorem Zin:Zp 12 Tryz.f12:=fun _ _=>Zi rfl rfl (by decide +kernel) rfl Tryz.func12 rfl
@[go_sem] theorem ZIq:Zz 12 0 [.tmp 4]:=Zo Tryz.func12 rfl rfl
theorem Zs4:Zp 13 Tryz.f13:=fun _ _=>Zi rfl rfl (by decide +kernel) rfl Tryz.func13 rfl
@[go_sem] theorem ZGs:Zz 13 0 [.tmp 6]:=Zo Tryz.func13 rfl rfl
theorem Zhf:Zp 14 Tryz.f14:=fun _ _=>Zi rfl rfl (by decide +kernel) rfl Tryz.func14 rfl
@[go_sem] theorem ZGf:Zz 14 0 [.cell 4 48]:=Zo Tryz.func14 rfl rfl
theorem Zm5:Zp 15 Tryz.f15:=fun _ _=>Zi rfl rfl (by decide +kernel) rfl Tryz.func15 rfl
@[go_sem] theorem ZH1:Zz 15 0 [.tmp 4]:=Zo Tryz.func15 rfl rfl
theorem Zsv:Zp 16 Tryz.f16:=fun _ _=>Zi rfl rfl (by decide +kernel) rfl Tryz.func16 rfl
@[go_sem] theorem ZFH:Zz 16 0 [.tmp 4]:=Zo Tryz.func16 rfl rfl
theorem Zr8:Zp 17 Tryz.f17:=fun _ _=>Zi rfl rfl (by decide +kernel) rfl Tryz.func17 rfl
@[go_sem] theorem ZFX:Zz 17 0 [.tmp 3]:=Zo Tryz.func17 rfl rfl
theorem Zr7:Zp 18 Tryz.f18:=fun _ _=>Zi rfl rfl (by decide +kernel) rfl Tryz.func18 rfl
@[go_sem] theorem ZF6:Zz 18 0 [.tmp 4]:=Zo Tryz.func18 rfl rfl
theorem Zs6 {args:List AV} {h:Zd} (hp:K.prim 19 args=none):R K (.call 19 args h)=R K (.run 19 h.length [.code (Tryz.f19.body.getD .skip)] (X9 0 args) h):=Zi hp rfl (by decide +kernel) rfl Tryz.func19 rfl
@[go_sem] theorem ZE1:Zz 19 1 [.tmp 2]:=Zo Tryz.func19 rfl rfl
theorem Zs3:Zp 20 Tryz.f20:=fun _ _=>Zi rfl rfl (by decide +kernel) rfl Tryz.func20 rfl
@[go_sem] theorem ZGK:Zz 20 0 [.tmp 4]:=Zo Tryz.func20 rfl rfl
theorem Zsn {args:List AV} {h:Zd} (hp:K.prim 21 args=none):R K (.call 21 args h)=R K (.run 21 h.length [.code (Tryz.f21.body.getD .skip)] (X9 0 args) h):=Zi hp rfl (by decide +kernel) rfl Tryz.func21 rfl
@[go_sem] theorem ZJK:Zz 21 1 [.tmp 2]:=Zo Tryz.func21 rfl rfl
theorem Zl1:Zp 22 Tryz.f22:=fun _ _=>Zi rfl rfl (by decide +kernel) rfl Tryz.func22 rfl
@[go_sem] theorem ZGa:Zz 22 0 [.tmp 2]:=Zo Tryz.func22 rfl rfl
theorem Zht:Zp 23 Tryz.f23:=fun _ _=>Zi rfl rfl (by decide +kernel) rfl Tryz.func23 rfl
@[go_sem] theorem ZJQ:Zz 23 3 [.tmp 2]:=Zo Tryz.func23 rfl rfl
theorem Zhh:Zp 24 Tryz.f24:=fun _ _=>Zi rfl rfl (by decide +kernel) rfl Tryz.func24 rfl
@[go_sem] theorem ZFK:Zz 24 3 [.tmp 2]:=Zo Tryz.func24 rfl rfl
theorem ZrT:Zp 25 Tryz.f25:=fun _ _=>Zi rfl rfl (by decide +kernel) rfl Tryz.func25 rfl
@[go_sem] theorem ZIC:Zz 25 0 [.cell 2 44,.tmp 3]:=Zo Tryz.func25 rfl rfl
theorem ZrU:Zp 26 Tryz.f26:=fun _ _=>Zi rfl rfl (by decide +kernel) rfl Tryz.func26 rfl
@[go_sem] theorem ZI7:Zz 26 0 [.tmp 6]:=Zo Tryz.func26 rfl rfl
theorem ZsN:Zp 27 Tryz.f27:=fun _ _=>Zi rfl rfl (by decide +kernel) rfl Tryz.func27 rfl
@[go_sem] theorem ZIk:Zz 27 0 [.tmp 4]:=Zo Tryz.func27 rfl rfl
theorem ZsU:Zp 28 Tryz.f28:=fun _ _=>Zi rfl rfl (by decide +kernel) rfl Tryz.func28 rfl
@[go_sem] theorem ZF0:Zz 28 0 [.cell 2 32,.tmp 3]:=Zo Tryz.func28 rfl rfl
theorem Zr4 {args:List AV} {h:Zd} (hp:K.prim 29 args=none):R K (.call 29 args h)=R K (.run 29 h.length [.code (Tryz.f29.body.getD .skip)] (X9 0 args) h):=Zi hp rfl (by decide +kernel) rfl Tryz.func29 rfl
@[go_sem] theorem ZHo:Zz 29 1 [.tmp 2]:=Zo Tryz.func29 rfl rfl
theorem Zsg {args:List AV} {h:Zd} (hp:K.prim 30 args=none) (hh:K.primH 30 args h=none):R K (.call 30 args h)=R K (.run 30 h.length [.code (Tryz.f30.body.getD .skip)] (X9 0 args) h):=Zi hp hh (by decide +kernel) rfl Tryz.func30 rfl
@[go_sem] theorem ZFx:Zz 30 1 [.tmp 2]:=Zo Tryz.func30 rfl rfl
theorem ZsB {args:List AV} {h:Zd} (hp:K.prim 31 args=none) (hh:K.primH 31 args h=none):R K (.call 31 args h)=R K (.run 31 h.length [.code (Tryz.f31.body.getD .skip)] (X9 0 args) h):=Zi hp hh (by decide +kernel) rfl Tryz.func31 rfl
@[go_sem] theorem ZFy:Zz 31 1 [.tmp 2]:=Zo Tryz.func31 rfl rfl
theorem ZsC:Zp 32 Tryz.f32:=fun _ _=>Zi rfl rfl (by decide +kernel) rfl Tryz.func32 rfl
@[go_sem] theorem ZJ1:Zz 32 0 []:=Zo Tryz.func32 rfl rfl
theorem Zbe:Zp 33 Tryz.f33:=fun _ _=>Zi rfl rfl (by decide +kernel) rfl Tryz.func33 rfl
@[go_sem] theorem ZIb:Zz 33 0 [.cell 2 55]:=Zo Tryz.func33 rfl rfl
theorem Zsb {args:List AV} {h:Zd} (hp:K.prim 34 args=none):R K (.call 34 args h)=R K (.run 34 h.length [.code (Tryz.f34.body.getD .skip)] (X9 0 args) h):=Zi hp rfl (by decide +kernel) rfl Tryz.func34 rfl
@[go_sem] theorem ZIF:Zz 34 1 [.tmp 2]:=Zo Tryz.func34 rfl rfl
theorem Zr6 {args:List AV} {h:Zd} (hp:K.prim 35 args=none):R K (.call 35 args h)=R K (.run 35 h.length [.code (Tryz.f35.body.getD .skip)] (X9 0 args) h):=Zi hp rfl (by decide +kernel) rfl Tryz.func35 rfl
@[go_sem] theorem ZJZ:Zz 35 1 [.tmp 2]:=Zo Tryz.func35 rfl rfl
theorem Zna:Zp 40 Tryz.f40:=fun _ _=>Zi rfl rfl (by decide +kernel) rfl Tryz.func40 rfl
@[go_sem] theorem ZHd:Zz 40 0 [.tmp 2]:=Zo Tryz.func40 rfl rfl
theorem Zne:Zp 41 Tryz.f41:=fun _ _=>Zi rfl rfl (by decide +kernel) rfl Tryz.func41 rfl
@[go_sem] theorem ZID:Zz 41 0 [.tmp 6]:=Zo Tryz.func41 rfl rfl
theorem ZsK:Zp 42 Tryz.f42:=fun _ _=>Zi rfl rfl (by decide +kernel) rfl Tryz.func42 rfl
@[go_sem] theorem ZFA:Zz 42 0 [.tmp 4]:=Zo Tryz.func42 rfl rfl
theorem Zl3:Zp 43 Tryz.f43:=fun _ _=>Zi rfl rfl (by decide +kernel) rfl Tryz.func43 rfl
@[go_sem] theorem ZGN:Zz 43 0 [.tmp 4]:=Zo Tryz.func43 rfl rfl
theorem Zsp:Zp 44 Tryz.f44:=fun _ _=>Zi rfl rfl (by decide +kernel) rfl Tryz.func44 rfl
@[go_sem] theorem ZI5:Zz 44 0 [.tmp 4]:=Zo Tryz.func44 rfl rfl
theorem ZeF:Zp 45 Tryz.f45:=fun _ _=>Zi rfl rfl (by decide +kernel) rfl Tryz.func45 rfl
@[go_sem] theorem ZIo:Zz 45 0 [.tmp 4]:=Zo Tryz.func45 rfl rfl
theorem ZsV:Zp 46 Tryz.f46:=fun _ _=>Zi rfl rfl (by decide +kernel) rfl Tryz.func46 rfl
@[go_sem] theorem ZJf:Zz 46 0 [.tmp 6,.tmp 7]:=Zo Tryz.func46 rfl rfl
theorem Zha:Zp 47 Tryz.f47:=fun _ _=>Zi rfl rfl (by decide +kernel) rfl Tryz.func47 rfl
@[go_sem] theorem ZGF:Zz 47 0 [.tmp 5]:=Zo Tryz.func47 rfl rfl
theorem Zbm:Zp 48 Tryz.f48:=fun _ _=>Zi rfl rfl (by decide +kernel) rfl Tryz.func48 rfl
@[go_sem] theorem ZJx:Zz 48 0 [.tmp 7]:=Zo Tryz.func48 rfl rfl
theorem ZsH:Zp 49 Tryz.f49:=fun _ _=>Zi rfl rfl (by decide +kernel) rfl Tryz.func49 rfl
@[go_sem] theorem ZFu:Zz 49 0 [.tmp 4]:=Zo Tryz.func49 rfl rfl
theorem ZhL:Zp 50 Tryz.f50:=fun _ _=>Zi rfl rfl (by decide +kernel) rfl Tryz.func50 rfl
@[go_sem] theorem ZHw:Zz 50 0 [.tmp 7]:=Zo Tryz.func50 rfl rfl
theorem ZeD:Zp 51 Tryz.f51:=fun _ _=>Zi rfl rfl (by decide +kernel) rfl Tryz.func51 rfl
@[go_sem] theorem ZGV:Zz 51 0 [.tmp 6]:=Zo Tryz.func51 rfl rfl
theorem Zbt:Zp 52 Tryz.f52:=fun _ _=>Zi rfl rfl (by decide +kernel) rfl Tryz.func52 rfl
@[go_sem] theorem ZG1:Zz 52 0 [.tmp 4]:=Zo Tryz.func52 rfl rfl
theorem Zl0:Zp 53 Tryz.f53:=fun _ _=>Zi rfl rfl (by decide +kernel) rfl Tryz.func53 rfl
@[go_sem] theorem ZIX:Zz 53 0 [.cell 4 57]:=Zo Tryz.func53 rfl rfl
theorem ZrJ:Zp 54 Tryz.f54:=fun _ _=>Zi rfl rfl (by decide +kernel) rfl Tryz.func54 rfl
@[go_sem] theorem ZHx:Zz 54 0 [.tmp 4]:=Zo Tryz.func54 rfl rfl
theorem Zl9:Zp 55 Tryz.f55:=fun _ _=>Zi rfl rfl (by decide +kernel) rfl Tryz.func55 rfl
@[go_sem] theorem ZIJ:Zz 55 0 [.tmp 4]:=Zo Tryz.func55 rfl rfl
theorem Zsr:Zp 56 Tryz.f56:=fun _ _=>Zi rfl rfl (by decide +kernel) rfl Tryz.func56 rfl
@[go_sem] theorem ZFO:Zz 56 0 [.tmp 4]:=Zo Tryz.func56 rfl rfl
theorem Zsu:Zp 57 Tryz.f57:=fun _ _=>Zi rfl rfl (by decide +kernel) rfl Tryz.func57 rfl
@[go_sem] theorem ZIt:Zz 57 0 [.tmp 4]:=Zo Tryz.func57 rfl rfl
theorem ZsX:Zp 58 Tryz.f58:=fun _ _=>Zi rfl rfl (by decide +kernel) rfl Tryz.func58 rfl
@[go_sem] theorem ZJu:Zz 58 0 [.tmp 3]:=Zo Tryz.func58 rfl rfl
theorem ZsD:Zp 59 Tryz.f59:=fun _ _=>Zi rfl rfl (by decide +kernel) rfl Tryz.func59 rfl
@[go_sem] theorem ZJb:Zz 59 0 [.tmp 6]:=Zo Tryz.func59 rfl rfl
theorem Zmr:Zp 60 Tryz.f60:=fun _ _=>Zi rfl rfl (by decide +kernel) rfl Tryz.func60 rfl
@[go_sem] theorem ZIj:Zz 60 0 [.tmp 2]:=Zo Tryz.func60 rfl rfl
theorem ZrW:Zp 61 Tryz.f61:=fun _ _=>Zi rfl rfl (by decide +kernel) rfl Tryz.func61 rfl
@[go_sem] theorem ZIi:Zz 61 0 [.tmp 4]:=Zo Tryz.func61 rfl rfl
theorem Zbr:Zp 62 Tryz.f62:=fun _ _=>Zi rfl rfl (by decide +kernel) rfl Tryz.func62 rfl
@[go_sem] theorem ZIl:Zz 62 3 [.cell 2 32]:=Zo Tryz.func62 rfl rfl
theorem ZsG:Zp 63 Tryz.f63:=fun _ _=>Zi rfl rfl (by decide +kernel) rfl Tryz.func63 rfl
@[go_sem] theorem ZF4:Zz 63 0 [.tmp 2]:=Zo Tryz.func63 rfl rfl
theorem Zm8:Zp 64 Tryz.f64:=fun _ _=>Zi rfl rfl (by decide +kernel) rfl Tryz.func64 rfl
@[go_sem] theorem ZFg:Zz 64 0 [.tmp 4]:=Zo Tryz.func64 rfl rfl
theorem Zad:Zp 65 Tryz.f65:=fun _ _=>Zi rfl rfl (by decide +kernel) rfl Tryz.func65 rfl
@[go_sem] theorem ZFS:Zz 65 0 [.tmp 6]:=Zo Tryz.func65 rfl rfl
theorem ZsY:Zp 66 Tryz.f66:=fun _ _=>Zi rfl rfl (by decide +kernel) rfl Tryz.func66 rfl
@[go_sem] theorem ZJA:Zz 66 0 [.tmp 4]:=Zo Tryz.func66 rfl rfl
theorem ZeG:Zp 67 Tryz.f67:=fun _ _=>Zi rfl rfl (by decide +kernel) rfl Tryz.func67 rfl
@[go_sem] theorem ZIW:Zz 67 0 [.cell 4 55]:=Zo Tryz.func67 rfl rfl
theorem Ztd:Zp 68 Tryz.f68:=fun _ _=>Zi rfl rfl (by decide +kernel) rfl Tryz.func68 rfl
@[go_sem] theorem ZJz:Zz 68 0 [.tmp 8]:=Zo Tryz.func68 rfl rfl
theorem ZmW:Zp 69 Tryz.f69:=fun _ _=>Zi rfl rfl (by decide +kernel) rfl Tryz.func69 rfl
@[go_sem] theorem ZF9:Zz 69 0 [.cell 4 55]:=Zo Tryz.func69 rfl rfl
theorem Zik:Zp 70 Tryz.f70:=fun _ _=>Zi rfl rfl (by decide +kernel) rfl Tryz.func70 rfl
@[go_sem] theorem ZIy:Zz 70 0 [.tmp 2]:=Zo Tryz.func70 rfl rfl
theorem Zmq:Zp 71 Tryz.f71:=fun _ _=>Zi rfl rfl (by decide +kernel) rfl Tryz.func71 rfl
@[go_sem] theorem ZIz:Zz 71 0 [.tmp 2]:=Zo Tryz.func71 rfl rfl
theorem ZrO:Zp 83 Tryz.f83:=fun _ _=>Zi rfl rfl (by decide +kernel) rfl Tryz.func83 rfl
@[go_sem] theorem ZHD:Zz 83 0 [.tmp 2]:=Zo Tryz.func83 rfl rfl
theorem Zte:Zp 84 Tryz.f84:=fun _ _=>Zi rfl rfl (by decide +kernel) rfl Tryz.func84 rfl
@[go_sem] theorem ZHM:Zz 84 0 [.tmp 1]:=Zo Tryz.func84 rfl rfl
theorem ZrG:Zp 85 Tryz.f85:=fun _ _=>Zi rfl rfl (by decide +kernel) rfl Tryz.func85 rfl
@[go_sem] theorem ZFe:Zz 85 0 [.tmp 3]:=Zo Tryz.func85 rfl rfl
theorem Zmz:Zp 86 Tryz.f86:=fun _ _=>Zi rfl rfl (by decide +kernel) rfl Tryz.func86 rfl
@[go_sem] theorem ZFI:Zz 86 0 [.tmp 4]:=Zo Tryz.func86 rfl rfl
theorem Ztc:Zp 87 Tryz.f87:=fun _ _=>Zi rfl rfl (by decide +kernel) rfl Tryz.func87 rfl
@[go_sem] theorem ZJF:Zz 87 0 [.tmp 1]:=Zo Tryz.func87 rfl rfl
theorem Ztp:Zp 88 Tryz.f88:=fun _ _=>Zi rfl rfl (by decide +kernel) rfl Tryz.func88 rfl
@[go_sem] theorem ZFP:Zz 88 0 [.tmp 3]:=Zo Tryz.func88 rfl rfl
theorem Zsk:Zp 89 Tryz.f89:=fun _ _=>Zi rfl rfl (by decide +kernel) rfl Tryz.func89 rfl
@[go_sem] theorem ZFQ:Zz 89 0 [.tmp 4]:=Zo Tryz.func89 rfl rfl
theorem ZhI:Zp 90 Tryz.f90:=fun _ _=>Zi rfl rfl (by decide +kernel) rfl Tryz.func90 rfl
@[go_sem] theorem ZJN:Zz 90 0 [.tmp 6]:=Zo Tryz.func90 rfl rfl
theorem Zst:Zp 91 Tryz.f91:=fun _ _=>Zi rfl rfl (by decide +kernel) rfl Tryz.func91 rfl
@[go_sem] theorem ZJl:Zz 91 0 [.tmp 4]:=Zo Tryz.func91 rfl rfl
theorem ZmP:Zp 92 Tryz.f92:=fun _ _=>Zi rfl rfl (by decide +kernel) rfl Tryz.func92 rfl
@[go_sem] theorem ZIs:Zz 92 0 [.tmp 4]:=Zo Tryz.func92 rfl rfl
theorem Zeu:Zp 93 Tryz.f93:=fun _ _=>Zi rfl rfl (by decide +kernel) rfl Tryz.func93 rfl
@[go_sem] theorem ZFZ:Zz 93 0 [.tmp 5]:=Zo Tryz.func93 rfl rfl
theorem Zmn:Zp 94 Tryz.f94:=fun _ _=>Zi rfl rfl (by decide +kernel) rfl Tryz.func94 rfl
@[go_sem] theorem ZFv:Zz 94 0 [.tmp 4]:=Zo Tryz.func94 rfl rfl
theorem Zbl:Zp 95 Tryz.f95:=fun _ _=>Zi rfl rfl (by decide +kernel) rfl Tryz.func95 rfl
@[go_sem] theorem ZF3:Zz 95 0 [.tmp 6]:=Zo Tryz.func95 rfl rfl
theorem ZsT:Zp 96 Tryz.f96:=fun _ _=>Zi rfl rfl (by decide +kernel) rfl Tryz.func96 rfl
@[go_sem] theorem ZGp:Zz 96 0 [.tmp 4]:=Zo Tryz.func96 rfl rfl
theorem Zs1:Zp 97 Tryz.f97:=fun _ _=>Zi rfl rfl (by decide +kernel) rfl Tryz.func97 rfl
@[go_sem] theorem ZIm:Zz 97 0 [.tmp 2]:=Zo Tryz.func97 rfl rfl
theorem ZsP:Zp 98 Tryz.f98:=fun _ _=>Zi rfl rfl (by decide +kernel) rfl Tryz.func98 rfl
@[go_sem] theorem ZIZ:Zz 98 0 [.tmp 3]:=Zo Tryz.func98 rfl rfl
theorem Zmw:Zp 99 Tryz.f99:=fun _ _=>Zi rfl rfl (by decide +kernel) rfl Tryz.func99 rfl
@[go_sem] theorem ZJ4:Zz 99 0 [.tmp 6]:=Zo Tryz.func99 rfl rfl
theorem Zjk:Zp 100 Tryz.f100:=fun _ _=>Zi rfl rfl (by decide +kernel) rfl Tryz.func100 rfl
@[go_sem] theorem ZDE:Zz 100 0 [.tmp 4]:=Zo Tryz.func100 rfl rfl
theorem Zo8:Zp 101 Tryz.f101:=fun _ _=>Zi rfl rfl (by decide +kernel) rfl Tryz.func101 rfl
@[go_sem] theorem ZDs:Zz 101 0 [.tmp 6,.tmp 7]:=Zo Tryz.func101 rfl rfl
theorem ZoP:Zp 102 Tryz.f102:=fun _ _=>Zi rfl rfl (by decide +kernel) rfl Tryz.func102 rfl
@[go_sem] theorem ZC4:Zz 102 0 [.tmp 2]:=Zo Tryz.func102 rfl rfl
theorem ZiL:Zp 103 Tryz.f103:=fun _ _=>Zi rfl rfl (by decide +kernel) rfl Tryz.func103 rfl
@[go_sem] theorem ZCL:Zz 103 0 [.tmp 4]:=Zo Tryz.func103 rfl rfl
theorem ZiC:Zp 104 Tryz.f104:=fun _ _=>Zi rfl rfl (by decide +kernel) rfl Tryz.func104 rfl
@[go_sem] theorem ZCw:Zz 104 0 [.tmp 4]:=Zo Tryz.func104 rfl rfl
theorem Zqf:Zp 105 Tryz.f105:=fun _ _=>Zi rfl rfl (by decide +kernel) rfl Tryz.func105 rfl
@[go_sem] theorem ZDC:Zz 105 0 [.tmp 4]:=Zo Tryz.func105 rfl rfl
theorem Zq9:Zp 106 Tryz.f106:=fun _ _=>Zi rfl rfl (by decide +kernel) rfl Tryz.func106 rfl
@[go_sem] theorem ZCO:Zz 106 0 [.tmp 3]:=Zo Tryz.func106 rfl rfl
theorem Zqj:Zp 107 Tryz.f107:=fun _ _=>Zi rfl rfl (by decide +kernel) rfl Tryz.func107 rfl
@[go_sem] theorem ZDG:Zz 107 0 [.tmp 4]:=Zo Tryz.func107 rfl rfl
theorem Zpa:Zp 108 Tryz.f108:=fun _ _=>Zi rfl rfl (by decide +kernel) rfl Tryz.func108 rfl
@[go_sem] theorem ZCE:Zz 108 0 [.cell 4 48,.tmp 5,.tmp 6]:=Zo Tryz.func108 rfl rfl
theorem Zcp:Zp 109 Tryz.f109:=fun _ _=>Zi rfl rfl (by decide +kernel) rfl Tryz.func109 rfl
@[go_sem] theorem ZD6:Zz 109 0 [.tmp 4]:=Zo Tryz.func109 rfl rfl
theorem ZaA:Zp 110 Tryz.f110:=fun _ _=>Zi rfl rfl (by decide +kernel) rfl Tryz.func110 rfl
@[go_sem] theorem ZC8:Zz 110 0 [.cell 4 55]:=Zo Tryz.func110 rfl rfl
theorem Ziy:Zp 171 Tryz.f171:=fun _ _=>Zi rfl rfl (by decide +kernel) rfl Tryz.func171 rfl
@[go_sem] theorem ZEa:Zz 171 0 [.tmp 6]:=Zo Tryz.func171 rfl rfl
theorem ZoS:Zp 172 Tryz.f172:=fun _ _=>Zi rfl rfl (by decide +kernel) rfl Tryz.func172 rfl
@[go_sem] theorem ZCG:Zz 172 0 [.tmp 2]:=Zo Tryz.func172 rfl rfl
theorem ZqC:Zp 173 Tryz.f173:=fun _ _=>Zi rfl rfl (by decide +kernel) rfl Tryz.func173 rfl
@[go_sem] theorem ZC0:Zz 173 0 [.tmp 1]:=Zo Tryz.func173 rfl rfl
theorem Zqu:Zp 174 Tryz.f174:=fun _ _=>Zi rfl rfl (by decide +kernel) rfl Tryz.func174 rfl
@[go_sem] theorem ZCF:Zz 174 0 [.tmp 2]:=Zo Tryz.func174 rfl rfl
theorem Zks:Zp 175 Tryz.f175:=fun _ _=>Zi rfl rfl (by decide +kernel) rfl Tryz.func175 rfl
@[go_sem] theorem ZCZ:Zz 175 0 [.tmp 1]:=Zo Tryz.func175 rfl rfl
theorem Zpc:Zp 176 Tryz.f176:=fun _ _=>Zi rfl rfl (by decide +kernel) rfl Tryz.func176 rfl
@[go_sem] theorem ZC1:Zz 176 0 [.tmp 6]:=Zo Tryz.func176 rfl rfl
theorem Zru:Zp 177 Tryz.f177:=fun _ _=>Zi rfl rfl (by decide +kernel) rfl Tryz.func177 rfl
@[go_sem] theorem ZC9:Zz 177 0 [.tmp 2]:=Zo Tryz.func177 rfl rfl
theorem ZoQ:Zp 178 Tryz.f178:=fun _ _=>Zi rfl rfl (by decide +kernel) rfl Tryz.func178 rfl
@[go_sem] theorem ZCV:Zz 178 0 [.tmp 1]:=Zo Tryz.func178 rfl rfl
theorem Zj9:Zp 179 Tryz.f179:=fun _ _=>Zi rfl rfl (by decide +kernel) rfl Tryz.func179 rfl
@[go_sem] theorem ZEC:Zz 179 0 [.tmp 3]:=Zo Tryz.func179 rfl rfl
theorem Zrx:Zp 180 Tryz.f180:=fun _ _=>Zi rfl rfl (by decide +kernel) rfl Tryz.func180 rfl
@[go_sem] theorem ZDc:Zz 180 0 [.tmp 2]:=Zo Tryz.func180 rfl rfl
theorem Zql:Zp 181 Tryz.f181:=fun _ _=>Zi rfl rfl (by decide +kernel) rfl Tryz.func181 rfl
@[go_sem] theorem ZDt:Zz 181 0 [.tmp 2]:=Zo Tryz.func181 rfl rfl
theorem Zqz:Zp 182 Tryz.f182:=fun _ _=>Zi rfl rfl (by decide +kernel) rfl Tryz.func182 rfl
@[go_sem] theorem ZDZ:Zz 182 0 [.tmp 1]:=Zo Tryz.func182 rfl rfl
theorem Zcw:Zp 183 Tryz.f183:=fun _ _=>Zi rfl rfl (by decide +kernel) rfl Tryz.func183 rfl
@[go_sem] theorem ZEu:Zz 183 0 [.tmp 3]:=Zo Tryz.func183 rfl rfl
theorem ZpC:Zp 184 Tryz.f184:=fun _ _=>Zi rfl rfl (by decide +kernel) rfl Tryz.func184 rfl
@[go_sem] theorem ZDo:Zz 184 0 [.tmp 2]:=Zo Tryz.func184 rfl rfl
theorem ZjM:Zp 185 Tryz.f185:=fun _ _=>Zi rfl rfl (by decide +kernel) rfl Tryz.func185 rfl
@[go_sem] theorem ZDd:Zz 185 0 [.tmp 5]:=Zo Tryz.func185 rfl rfl
theorem Zcr:Zp 186 Tryz.f186:=fun _ _=>Zi rfl rfl (by decide +kernel) rfl Tryz.func186 rfl
@[go_sem] theorem ZDT:Zz 186 0 [.tmp 4]:=Zo Tryz.func186 rfl rfl
theorem Zka:Zp 187 Tryz.f187:=fun _ _=>Zi rfl rfl (by decide +kernel) rfl Tryz.func187 rfl
@[go_sem] theorem ZCC:Zz 187 0 [.tmp 4]:=Zo Tryz.func187 rfl rfl
theorem ZpY:Zp 188 Tryz.f188:=fun _ _=>Zi rfl rfl (by decide +kernel) rfl Tryz.func188 rfl
@[go_sem] theorem ZCB:Zz 188 0 [.tmp 3]:=Zo Tryz.func188 rfl rfl
theorem ZpS:Zp 189 Tryz.f189:=fun _ _=>Zi rfl rfl (by decide +kernel) rfl Tryz.func189 rfl
@[go_sem] theorem ZEL:Zz 189 0 [.cell 2 55]:=Zo Tryz.func189 rfl rfl
theorem ZjZ:Zp 190 Tryz.f190:=fun _ _=>Zi rfl rfl (by decide +kernel) rfl Tryz.func190 rfl
@[go_sem] theorem ZEP:Zz 190 0 [.tmp 4]:=Zo Tryz.func190 rfl rfl
theorem ZiO:Zp 191 Tryz.f191:=fun _ _=>Zi rfl rfl (by decide +kernel) rfl Tryz.func191 rfl
@[go_sem] theorem ZD1:Zz 191 0 [.tmp 4]:=Zo Tryz.func191 rfl rfl
theorem Zrw:Zp 192 Tryz.f192:=fun _ _=>Zi rfl rfl (by decide +kernel) rfl Tryz.func192 rfl
@[go_sem] theorem ZDk:Zz 192 0 [.tmp 2]:=Zo Tryz.func192 rfl rfl
theorem Zpg:Zp 193 Tryz.f193:=fun _ _=>Zi rfl rfl (by decide +kernel) rfl Tryz.func193 rfl
@[go_sem] theorem ZDQ:Zz 193 0 [.tmp 6]:=Zo Tryz.func193 rfl rfl
theorem Zkf:Zp 195 Tryz.f195:=fun _ _=>Zi rfl rfl (by decide +kernel) rfl Tryz.func195 rfl
@[go_sem] theorem ZCy:Zz 195 0 [.tmp 4]:=Zo Tryz.func195 rfl rfl
theorem ZiE:Zp 196 Tryz.f196:=fun _ _=>Zi rfl rfl (by decide +kernel) rfl Tryz.func196 rfl
@[go_sem] theorem ZEm:Zz 196 0 [.tmp 4]:=Zo Tryz.func196 rfl rfl
theorem Zpn:Zp 197 Tryz.f197:=fun _ _=>Zi rfl rfl (by decide +kernel) rfl Tryz.func197 rfl
@[go_sem] theorem ZEG:Zz 197 0 []:=Zo Tryz.func197 rfl rfl
theorem JQ:Zp 198 Tryz.f198:=fun _ _=>Zi rfl rfl (by decide +kernel) rfl Tryz.func198 rfl
@[go_sem] theorem ZCT:Zz 198 0 [.cell 4 32,.tmp 5]:=Zo Tryz.func198 rfl rfl
theorem Zqb:Zp 207 Tryz.f207:=fun _ _=>Zi rfl rfl (by decide +kernel) rfl Tryz.func207 rfl
@[go_sem] theorem ZDP:Zz 207 0 [.tmp 4]:=Zo Tryz.func207 rfl rfl
theorem ZqO:Zp 228 Tryz.f228:=fun _ _=>Zi rfl rfl (by decide +kernel) rfl Tryz.func228 rfl
@[go_sem] theorem ZDR:Zz 228 0 [.tmp 6]:=Zo Tryz.func228 rfl rfl
theorem ZiG:Zp 279 Tryz.f279:=fun _ _=>Zi rfl rfl (by decide +kernel) rfl Tryz.func279 rfl
@[go_sem] theorem ZDb:Zz 279 0 [.tmp 2]:=Zo Tryz.func279 rfl rfl
theorem Zpw:Zp 280 Tryz.f280:=fun _ _=>Zi rfl rfl (by decide +kernel) rfl Tryz.func280 rfl
@[go_sem] theorem ZEJ:Zz 280 0 [.tmp 3]:=Zo Tryz.func280 rfl rfl
theorem ZeS:Zp 281 Tryz.f281:=fun _ _=>Zi rfl rfl (by decide +kernel) rfl Tryz.func281 rfl
@[go_sem] theorem ZDW:Zz 281 0 [.tmp 5]:=Zo Tryz.func281 rfl rfl
theorem Zqw:Zp 282 Tryz.f282:=fun _ _=>Zi rfl rfl (by decide +kernel) rfl Tryz.func282 rfl
@[go_sem] theorem ZEV:Zz 282 0 [.tmp 6]:=Zo Tryz.func282 rfl rfl
theorem Zpl:Zp 283 Tryz.f283:=fun _ _=>Zi rfl rfl (by decide +kernel) rfl Tryz.func283 rfl
@[go_sem] theorem ZDD:Zz 283 0 [.tmp 2]:=Zo Tryz.func283 rfl rfl
theorem ZqN:Zp 284 Tryz.f284:=fun _ _=>Zi rfl rfl (by decide +kernel) rfl Tryz.func284 rfl
@[go_sem] theorem ZDH:Zz 284 0 [.tmp 2]:=Zo Tryz.func284 rfl rfl
theorem Zjc:Zp 285 Tryz.f285:=fun _ _=>Zi rfl rfl (by decide +kernel) rfl Tryz.func285 rfl
@[go_sem] theorem ZEH:Zz 285 0 [.tmp 2]:=Zo Tryz.func285 rfl rfl
theorem ZaX:Zp 286 Tryz.f286:=fun _ _=>Zi rfl rfl (by decide +kernel) rfl Tryz.func286 rfl
@[go_sem] theorem ZCz:Zz 286 0 [.tmp 6]:=Zo Tryz.func286 rfl rfl
theorem JD:Zp 287 Tryz.f287:=fun _ _=>Zi rfl rfl (by decide +kernel) rfl Tryz.func287 rfl
@[go_sem] theorem ZDU:Zz 287 0 [.tmp 4]:=Zo Tryz.func287 rfl rfl
theorem ZpU:Zp 288 Tryz.f288:=fun _ _=>Zi rfl rfl (by decide +kernel) rfl Tryz.func288 rfl
@[go_sem] theorem ZET:Zz 288 0 [.cell 2 55]:=Zo Tryz.func288 rfl rfl
theorem ZqG:Zp 296 Tryz.f296:=fun _ _=>Zi rfl rfl (by decide +kernel) rfl Tryz.func296 rfl
@[go_sem] theorem ZDX:Zz 296 0 [.tmp 2]:=Zo Tryz.func296 rfl rfl
theorem ZBF:Zp 297 Tryz.f297:=fun _ _=>Zi rfl rfl (by decide +kernel) rfl Tryz.func297 rfl
@[go_sem] theorem ZDz:Zz 297 0 [.tmp 4]:=Zo Tryz.func297 rfl rfl
theorem ZAJ:Zp 298 Tryz.f298:=fun _ _=>Zi rfl rfl (by decide +kernel) rfl Tryz.func298 rfl
@[go_sem] theorem ZCQ:Zz 298 0 [.tmp 6]:=Zo Tryz.func298 rfl rfl
theorem ZCu:Zp 299 Tryz.f299:=fun _ _=>Zi rfl rfl (by decide +kernel) rfl Tryz.func299 rfl
@[go_sem] theorem ZEA:Zz 299 0 [.tmp 6]:=Zo Tryz.func299 rfl rfl
theorem ZqM:Zp 300 Tryz.f300:=fun _ _=>Zi rfl rfl (by decide +kernel) rfl Tryz.func300 rfl
@[go_sem] theorem ZDr:Zz 300 0 []:=Zo Tryz.func300 rfl rfl
theorem ZpJ:Zp 318 Tryz.f318:=fun _ _=>Zi rfl rfl (by decide +kernel) rfl Tryz.func318 rfl
@[go_sem] theorem ZDN:Zz 318 0 [.tmp 2]:=Zo Tryz.func318 rfl rfl
theorem Zqh:Zp 376 Tryz.f376:=fun _ _=>Zi rfl rfl (by decide +kernel) rfl Tryz.func376 rfl
@[go_sem] theorem ZD4:Zz 376 0 []:=Zo Tryz.func376 rfl rfl
theorem Zi0:Zp 384 Tryz.f384:=fun _ _=>Zi rfl rfl (by decide +kernel) rfl Tryz.func384 rfl
@[go_sem] theorem ZCJ:Zz 384 0 [.tmp 2]:=Zo Tryz.func384 rfl rfl
theorem ZpV:Zp 386 Tryz.f386:=fun _ _=>Zi rfl rfl (by decide +kernel) rfl Tryz.func386 rfl
@[go_sem] theorem ZEB:Zz 386 0 [.tmp 2]:=Zo Tryz.func386 rfl rfl
theorem Zzi:Zp 391 Tryz.f391:=fun _ _=>Zi rfl rfl (by decide +kernel) rfl Tryz.func391 rfl
@[go_sem] theorem ZDi:Zz 391 0 [.tmp 4]:=Zo Tryz.func391 rfl rfl
theorem ZA4:Zp 392 Tryz.f392:=fun _ _=>Zi rfl rfl (by decide +kernel) rfl Tryz.func392 rfl
@[go_sem] theorem ZEh:Zz 392 0 [.tmp 4]:=Zo Tryz.func392 rfl rfl
theorem ZCe:Zp 393 Tryz.f393:=fun _ _=>Zi rfl rfl (by decide +kernel) rfl Tryz.func393 rfl
@[go_sem] theorem ZDx:Zz 393 0 [.tmp 4]:=Zo Tryz.func393 rfl rfl
theorem Zpv:Zp 394 Tryz.f394:=fun _ _=>Zi rfl rfl (by decide +kernel) rfl Tryz.func394 rfl
@[go_sem] theorem ZEK:Zz 394 0 []:=Zo Tryz.func394 rfl rfl
theorem Zpm:Zp 395 Tryz.f395:=fun _ _=>Zi rfl rfl (by decide +kernel) rfl Tryz.func395 rfl
@[go_sem] theorem ZCM:Zz 395 0 [.tmp 5]:=Zo Tryz.func395 rfl rfl
theorem Zri:Zp 442 Tryz.f442:=fun _ _=>Zi rfl rfl (by decide +kernel) rfl Tryz.func442 rfl
@[go_sem] theorem ZCS:Zz 442 0 []:=Zo Tryz.func442 rfl rfl
theorem ZzM:Zp 483 Tryz.f483:=fun _ _=>Zi rfl rfl (by decide +kernel) rfl Tryz.func483 rfl
@[go_sem] theorem ZDf:Zz 483 0 []:=Zo Tryz.func483 rfl rfl
theorem ZBS:Zp 495 Tryz.f495:=fun _ _=>Zi rfl rfl (by decide +kernel) rfl Tryz.func495 rfl
@[go_sem] theorem ZDB:Zz 495 0 []:=Zo Tryz.func495 rfl rfl
theorem Zz0:Zp 506 Tryz.f506:=fun _ _=>Zi rfl rfl (by decide +kernel) rfl Tryz.func506 rfl
@[go_sem] theorem ZEE:Zz 506 0 []:=Zo Tryz.func506 rfl rfl
end Go.Ab
namespace Go.Ab
open Go Go.Proofs
attribute [go_sem] ZB4 Zo9 Zoe ZoJ ZrB Znw Zln ZkD Zlo ZqT ZnB ZrN Zzn ZuH Zu8 ZCa ZAx Zzw Zwj Zk9 ZlR Zko Zhi ZvA Zt8 Zo5 Zqs Zuq Zp0 Zsy
attribute [go_sem] Z0 ZH Xk Zay ZiK Zju isQ ZmG alo fill QP ZhN Go.Ab.alloc cellsOf ZB Zl WO val Zee part WZ ZJ Yk ZS YN pur Zdy Zex Zaa QC Zaj ZdC lv lvR evs XQ X4 XH ZbL aUn pick Zsm Zdd ZbN QQ splice Zir Zh8 Zhu Zrt Wx Ztk Zhn Zqe Znv ZnO ZcC JW ZhS Zsi Zak Zm Zk ZP Xj Wj Zfr Zgu ZuZ Yf Z7 ZZ Xu ZkB Zc4 ZbZ Zj7 ZL XK Xr ZhB X9 ZcF eqV Y1 ZeI unwind ZbM JV WN frz restr Zax tk? ZqK Zip Zb2 Zmb Zqg ZkM ZqZ ZkC ZcT ZcD Zj5 Zbf Zig Zac Zfj ZcV List.length_replicate Qz ZoK low ZeT evo Zh7 Zch YQ ZfA ZcI List.length_map YB cut Z9 Yh Y7 Ql List.any_cons List.contains_nil List.contains_cons Zci Q2 Ju Zfx XG JE ZdA Qa Zrg Zf2 ZeX ZgA Zrq orV ZtT Zlg Za3 Zk7 Zct isF isT ZlM ZrC Zj1 ZkO Zpj tidy ZkR Yc Xc ZbG YK Wo Zbi Int.ofNat_eq_natCast Int.cast_ofNat_Int
@[go_sem] theorem ZtD {el:Option TypeId} {wq:Bool} {h:Zd} {z b l n:Nat} {ys:List (List AV)}:Wf el wq h z b ys (.own l n)=YQ wq h z b (.own l n) ys:=rfl
@[go_sem] theorem Zsj {el:Option TypeId} {wq:Bool} {h:Zd} {z b:Nat} {ys:List (List AV)}:Wf el wq h z b ys .nils=YQ wq h z b .nils ys:=rfl
@[go_sem] theorem ZtB {el:Option TypeId} {wq:Bool} {h:Zd} {z b:Nat} {rs ys:List (List AV)}:Wf el wq h z b ys (.lit rs)=YQ wq h z b (.lit rs) ys:=rfl
@[go_sem] theorem Zsx {el:Option TypeId} {wq:Bool} {h:Zd} {z b:Nat} {rs ys:List (List AV)}:Wf el wq h z b ys (.rows rs)=YQ wq h z b (.rows rs) ys:=rfl
@[go_sem] theorem ZrY {t:TypeId} {wq:Bool} {h:Zd} {z b l n:Nat} {ys:List (List AV)}:Wf (some t) wq h z b ys (.town t l n)=tyO t (YQ wq h z b (.own l n) ys):=by simp [Wf]
@[go_sem] theorem ZEW {t:TypeId} {l n:Nat} {h:Zd}:tyO t (some (.own l n,h))=some (.town t l n,h):=rfl
@[go_sem] theorem Zys {t:TypeId} {r:Option (AV×Zd)}:Zc1 false t r=r:=rfl
@[go_sem] theorem Zu2 {t:TypeId} {l o:Nat} {h:Zd}:Zc1 true t (some (.ptr l o,h))=some (.tptr t l o,h):=rfl
@[go_sem] theorem Zy5 {nl:FuncId→Bool} {F:Tk→Res} {h:Zd} {args caps:List AV} {g:FuncId}:Yv nl F h args (.fn g caps)=XQ F g h (args++caps) (Zdy (nl g) h (args++caps)):=rfl
@[go_sem] theorem ZwO {nl:FuncId→Bool} {F:Tk→Res} {h:Zd} {args fs:List AV} {g:FuncId}:Yv nl F h args (.bnd g fs)=XQ F g h (fs++args) (Zdy (nl g) h (fs++args)):=rfl
attribute [go_sem] ZeE
@[go_sem] theorem ZKZ:K.nlA=nlA:=rfl
@[go_sem] theorem ZHv:K.post=post:=rfl
attribute [go_sem] nlA post
theorem Zlf {dy:List (Nat×Nat)} {i:Nat} {fr:Fr} {h h':Zd} {T:List Nat} (e:Ql dy i fr T=true):Ql dy i fr (chg h h' T)=true:=by
 have sub:∀ (T:List Nat) (l:Nat),l∈chg h h' T→l∈T:=fun T l=>by
  induction T with
  | nil=>simp [chg]
  | cons x r ih =>
   simp only [chg]
   split
   ·exact fun hx=>List.mem_cons_of_mem _ (ih hx)
   ·intro hx
    rcases List.mem_cons.1 hx with rfl | hx
    ·simp
    ·exact List.mem_cons_of_mem _ (ih hx)
 induction dy with
 | nil=>rfl
 | cons a r ih =>
  obtain ⟨j,s⟩:=a
  simp only [Ql,Bool.and_eq_true] at e ⊢
  refine ⟨?_,ih e.2⟩
  have e1:=e.1
  by_cases hj:j=i
  ·simp only [hj,if_true,Bool.not_eq_true',List.any_eq_false,List.contains_iff_mem] at e1 ⊢
   exact fun l hl hx=>e1 l hl (sub T l hx)
  ·simp only [hj,if_false]
@[go_sem] theorem ZrE {dy:List (Nat×Nat)} {fr:Fr}:YA dy fr []=true:=rfl
@[go_sem] theorem Zto {dy:List (Nat×Nat)} {fr:Fr} {i:Nat} {h h':Zd} {T:List Nat} {r:List (Nat×List Nat)}:YA dy fr ((i,chg h h' T)::r)=((Ql dy i fr T||Ql dy i fr (chg h h' T))&&YA dy fr r):=by
 simp only [YA]
 cases hc:Ql dy i fr T with
 | false=>simp
 | true=>simp [Zlf hc]
@[go_sem] theorem Zs2 {h:Zd} {r:Option (AV×Zd)} {v:AV}:Jl h r (some v)=some (v,h):=rfl
@[go_sem] theorem Zsq {h:Zd} {ev:Operand→AV} {n z b:Nat} {ps:List (Nat×Operand)}:Jl h (Jv h ev n ps (some (z,b))) none=Ze9 n z h (W5 h ev z 0 ps):=rfl
attribute [go_sem] Ze9 W5
@[go_sem] theorem Zyx (n:Nat):Z6 n []=true:=rfl
@[go_sem] theorem Zle (n l:Nat) (r:List Nat):(Z6 n (l::r)=true)=(l < n∧Z6 n r=true):=by simp [Z6]
@[go_sem] theorem ZxY {F:Tk→Res} {f k n:Nat} {ks:List It} {fr:Fr} {h:Zd} {l:List Nat}:Jk F f k ks n fr h (some l)=if k≤n∧(Z6 n (Wj (restr fr l))=true∧Z6 n (ZP (h.take n))=true) then F (.run f k ks (restr fr l) (h.take n)) else F (.run f k ks (restr fr l) h):=by
 simp [Jk]
@[go_sem] theorem ZtN {F:Tk→Res} {f k n:Nat} {ks:List It} {fr:Fr} {h:Zd} {c:Code} {live:List Nat×List Nat}:Zc5 F f k ks c live n (some (fr,h))=if k≤n∧(Z6 n (Wj fr)=true∧Z6 n (ZP (h.take n))=true) then F (.run f k (.code c::.lp c (some live) n::ks) fr (h.take n)) else F (.run f k (.code c::.lp c (some live) n::ks) fr h):=by
 simp [Zc5]
attribute [go_sem] List.size_toArray Array.size_empty Option.getD_some Nat.zero_add Nat.add_zero List.length_nil List.length_cons List.length_append List.nil_append List.append_nil List.cons_append List.getElem?_cons_zero List.getElem?_cons_succ List.getElem?_nil List.getElem?_toArray beq_iff_eq List.take_zero List.take_succ_cons List.take_nil List.drop_zero List.drop_succ_cons List.drop_nil List.set_cons_zero List.set_cons_succ List.length_set List.replicate_zero List.replicate_succ List.any_nil Bool.not_false Bool.not_true Bool.and_true Bool.true_and Bool.and_false Bool.false_and Bool.or_true Bool.or_false Bool.true_or Bool.false_or Bool.and_self Bool.false_eq_true if_true if_false ite_true ite_false cond_true cond_false decide_true decide_false decide_eq_true_eq and_self and_true true_and and_false false_and Option.some.injEq AV.bool.injEq Nat.le_refl
end Go.Ab
