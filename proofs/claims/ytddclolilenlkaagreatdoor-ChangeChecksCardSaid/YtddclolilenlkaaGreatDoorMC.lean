/- What is proved: facts by program on types and code, for rewriting. What is proved: nothing new; rules for rewriting are gathered. Conditions: none. -/
import Derived.Test.YtddclolilenlkaaGreatDoorMS
import Derived.Test.YtddclolilenlkaaGreatDoorMX4
set_option linter.unusedSimpArgs false
set_option linter.unusedVariables false
namespace Go.Ab
open Go Go.Proofs Go.Proofs.Tryz
set_option maxRecDepth 100000
abbrev LvO(a b:Nat)(c:List Nat×List (Nat×Option Nat×Nat×Bool)×List Nat)(d:List Nat):Prop:=K.live a b=some c∧K.out a b=some d
abbrev DyR(a b:Nat)(c:List (Nat×Nat)):Prop:=K.dyn a b=c
abbrev FoR(a b:Nat)(c:Nat×TypeId):Prop:=fo prog a b=some c
@[go_sem]theorem K_P:K.P=prog:=rfl
@[go_sem]theorem ZD9(xs:List AV):ZdF K (some 22) xs=false:=rfl
@[go_sem]theorem ZDW(xs:List AV):ZdF K (some 26) xs=false:=rfl
@[go_sem]theorem ZD0(xs:List AV):ZdF K (some 36) xs=Zi0 xs:=rfl
@[go_sem]theorem ZDO(xs:List AV):ZdF K (some 41) xs=false:=rfl
@[go_sem]theorem ZDQ(xs:List AV):ZdF K (some 42) xs=Zi0 xs:=rfl
@[go_sem]theorem ZD5(xs:List AV):ZdF K (some 43) xs=Zi0 xs:=rfl
@[go_sem]theorem ZEo(xs:List AV):ZdF K (some 82) xs=false:=rfl
abbrev Zl(n:Nat)(f:Func):Prop:=∀(args:List AV) (h:Za),R K (.call n args h)=R K (.run n h.length [.code (f.body.getD .skip)] (QS 0 args) h)
theorem ZBo{f m k:Nat}{fr:Fr}{h:Za}{fn:Func}{rs:List ResultVar}(h1:prog.funcs[f]?=some fn)(h2:fn.results.toList=rs)(h3:K.ret f=m):Zfq K f k fr h=Zfg m k h (ZlG prog fr h rs):=by unfold Zfq;rw[K_P,h1,←h2,←h3]
abbrev Zr(f m:Nat)(l:List ResultVar):Prop:=∀(k:Nat) (fr:Fr) (h:Za),Zfq K f k fr h=Zfg m k h (ZlG prog fr h l)
theorem Zj{f m:Nat}{fn:Func}{rs:List ResultVar}(h1:prog.funcs[f]?=some fn)(h2:fn.results.toList=rs)(h3:K.ret f=m):Zr f m rs:=fun _ _ _=>ZBo h1 h2 h3
theorem ZwQ:Zl 3 f3:=fun _ _=>Zd rfl rfl (by decide +kernel) rfl func3 rfl
theorem ZAJ:Zl 4 f4:=fun _ _=>Zd rfl rfl (by decide +kernel) rfl func4 rfl
theorem ZAW:Zl 5 f5:=fun _ _=>Zd rfl rfl (by decide +kernel) rfl func5 rfl
theorem W1:Zl 6 f6:=fun _ _=>Zd rfl rfl (by decide +kernel) rfl func6 rfl
theorem ZsY:Zl 7 f7:=fun _ _=>Zd rfl rfl (by decide +kernel) rfl func7 rfl
theorem ZcJ:Zl 8 f8:=fun _ _=>Zd rfl rfl (by decide +kernel) rfl func8 rfl
theorem Za6:Zl 9 f9:=fun _ _=>Zd rfl rfl (by decide +kernel) rfl func9 rfl
theorem Zxs:Zl 11 f11:=fun _ _=>Zd rfl rfl (by decide +kernel) rfl func11 rfl
theorem Zk0:Zl 12 f12:=fun _ _=>Zd rfl rfl (by decide +kernel) rfl func12 rfl
theorem Zqn:Zl 13 f13:=fun _ _=>Zd rfl rfl (by decide +kernel) rfl func13 rfl
theorem ZxD:Zl 14 f14:=fun _ _=>Zd rfl rfl (by decide +kernel) rfl func14 rfl
theorem ZxM:Zl 15 f15:=fun _ _=>Zd rfl rfl (by decide +kernel) rfl func15 rfl
theorem Zy0:Zl 16 f16:=fun _ _=>Zd rfl rfl (by decide +kernel) rfl func16 rfl
theorem Zya{args:List AV}{h:Za}(hp:K.prim 17 args=none)(hh:K.primH 17 args h=none):R K (.call 17 args h)=R K (.run 17 h.length [.code (f17.body.getD .skip)] (QS 0 args) h):=Zd hp hh (by decide +kernel) rfl func17 rfl
theorem ZyN:Zl 18 f18:=fun _ _=>Zd rfl rfl (by decide +kernel) rfl func18 rfl
theorem Zyd{args:List AV}{h:Za}(hp:K.prim 19 args=none)(hh:K.primH 19 args h=none):R K (.call 19 args h)=R K (.run 19 h.length [.code (f19.body.getD .skip)] (QS 0 args) h):=Zd hp hh (by decide +kernel) rfl func19 rfl
theorem Zqi:Zl 20 f20:=fun _ _=>Zd rfl rfl (by decide +kernel) rfl func20 rfl
theorem ZxS{args:List AV}{h:Za}(hp:K.prim 21 args=none)(hh:K.primH 21 args h=none):R K (.call 21 args h)=R K (.run 21 h.length [.code (f21.body.getD .skip)] (QS 0 args) h):=Zd hp hh (by decide +kernel) rfl func21 rfl
theorem ZxE{args:List AV}{h:Za}(hp:K.prim 22 args=none)(hh:K.primH 22 args h=none):R K (.call 22 args h)=R K (.run 22 h.length [.code (f22.body.getD .skip)] (QS 0 args) h):=Zd hp hh (by decide +kernel) rfl func22 rfl
theorem Zdg:Zl 23 f23:=fun _ _=>Zd rfl rfl (by decide +kernel) rfl func23 rfl
theorem Zrq:Zl 24 f24:=fun _ _=>Zd rfl rfl (by decide +kernel) rfl func24 rfl
theorem Zql:Zl 25 f25:=fun _ _=>Zd rfl rfl (by decide +kernel) rfl func25 rfl
theorem ZyE:Zl 26 f26:=fun _ _=>Zd rfl rfl (by decide +kernel) rfl func26 rfl
theorem Wx:Zl 27 f27:=fun _ _=>Zd rfl rfl (by decide +kernel) rfl func27 rfl
theorem Zyi:Zl 28 f28:=fun _ _=>Zd rfl rfl (by decide +kernel) rfl func28 rfl
theorem Zzp:Zl 29 f29:=fun _ _=>Zd rfl rfl (by decide +kernel) rfl func29 rfl
theorem YO:Zl 30 f30:=fun _ _=>Zd rfl rfl (by decide +kernel) rfl func30 rfl
theorem Zxp:Zl 31 f31:=fun _ _=>Zd rfl rfl (by decide +kernel) rfl func31 rfl
theorem Zyr:Zl 39 f39:=fun _ _=>Zd rfl rfl (by decide +kernel) rfl func39 rfl
theorem ZqK:Zl 40 f40:=fun _ _=>Zd rfl rfl (by decide +kernel) rfl func40 rfl
theorem ZyH:Zl 41 f41:=fun _ _=>Zd rfl rfl (by decide +kernel) rfl func41 rfl
theorem Zrh:Zl 42 f42:=fun _ _=>Zd rfl rfl (by decide +kernel) rfl func42 rfl
theorem Zzq:Zl 43 f43:=fun _ _=>Zd rfl rfl (by decide +kernel) rfl func43 rfl
theorem ZyX:Zl 44 f44:=fun _ _=>Zd rfl rfl (by decide +kernel) rfl func44 rfl
theorem ZqQ:Zl 45 f45:=fun _ _=>Zd rfl rfl (by decide +kernel) rfl func45 rfl
theorem Zy8:Zl 46 f46:=fun _ _=>Zd rfl rfl (by decide +kernel) rfl func46 rfl
theorem ZkY:Zl 47 f47:=fun _ _=>Zd rfl rfl (by decide +kernel) rfl func47 rfl
theorem Zrd:Zl 48 f48:=fun _ _=>Zd rfl rfl (by decide +kernel) rfl func48 rfl
theorem Ze3:Zl 50 f50:=fun _ _=>Zd rfl rfl (by decide +kernel) rfl func50 rfl
theorem Zq1:Zl 51 f51:=fun _ _=>Zd rfl rfl (by decide +kernel) rfl func51 rfl
theorem Zxr:Zl 52 f52:=fun _ _=>Zd rfl rfl (by decide +kernel) rfl func52 rfl
theorem ZxA:Zl 53 f53:=fun _ _=>Zd rfl rfl (by decide +kernel) rfl func53 rfl
theorem Zze:Zl 54 f54:=fun _ _=>Zd rfl rfl (by decide +kernel) rfl func54 rfl
theorem ZxI:Zl 55 f55:=fun _ _=>Zd rfl rfl (by decide +kernel) rfl func55 rfl
theorem Wg:Zl 56 f56:=fun _ _=>Zd rfl rfl (by decide +kernel) rfl func56 rfl
theorem Zy6:Zl 57 f57:=fun _ _=>Zd rfl rfl (by decide +kernel) rfl func57 rfl
theorem Zyg:Zl 58 f58:=fun _ _=>Zd rfl rfl (by decide +kernel) rfl func58 rfl
theorem Zhc:Zl 59 f59:=fun _ _=>Zd rfl rfl (by decide +kernel) rfl func59 rfl
theorem Zqr:Zl 60 f60:=fun _ _=>Zd rfl rfl (by decide +kernel) rfl func60 rfl
theorem Zxv:Zl 61 f61:=fun _ _=>Zd rfl rfl (by decide +kernel) rfl func61 rfl
theorem Zqu:Zl 62 f62:=fun _ _=>Zd rfl rfl (by decide +kernel) rfl func62 rfl
theorem Zzu:Zl 63 f63:=fun _ _=>Zd rfl rfl (by decide +kernel) rfl func63 rfl
theorem ZxR:Zl 64 f64:=fun _ _=>Zd rfl rfl (by decide +kernel) rfl func64 rfl
theorem Zl4:Zl 65 f65:=fun _ _=>Zd rfl rfl (by decide +kernel) rfl func65 rfl
theorem Xn:Zl 66 f66:=fun _ _=>Zd rfl rfl (by decide +kernel) rfl func66 rfl
theorem ZyP:Zl 67 f67:=fun _ _=>Zd rfl rfl (by decide +kernel) rfl func67 rfl
theorem ZxZ:Zl 68 f68:=fun _ _=>Zd rfl rfl (by decide +kernel) rfl func68 rfl
theorem Zyc:Zl 69 f69:=fun _ _=>Zd rfl rfl (by decide +kernel) rfl func69 rfl
theorem Zxu:Zl 70 f70:=fun _ _=>Zd rfl rfl (by decide +kernel) rfl func70 rfl
theorem ZxL:Zl 71 f71:=fun _ _=>Zd rfl rfl (by decide +kernel) rfl func71 rfl
theorem ZxO:Zl 72 f72:=fun _ _=>Zd rfl rfl (by decide +kernel) rfl func72 rfl
theorem Zl5:Zl 73 f73:=fun _ _=>Zd rfl rfl (by decide +kernel) rfl func73 rfl
theorem Zzj:Zl 74 f74:=fun _ _=>Zd rfl rfl (by decide +kernel) rfl func74 rfl
theorem Zx6:Zl 75 f75:=fun _ _=>Zd rfl rfl (by decide +kernel) rfl func75 rfl
theorem ZxW:Zl 77 f77:=fun _ _=>Zd rfl rfl (by decide +kernel) rfl func77 rfl
theorem Zyq:Zl 78 f78:=fun _ _=>Zd rfl rfl (by decide +kernel) rfl func78 rfl
theorem ZxX:Zl 79 f79:=fun _ _=>Zd rfl rfl (by decide +kernel) rfl func79 rfl
theorem Zy9:Zl 80 f80:=fun _ _=>Zd rfl rfl (by decide +kernel) rfl func80 rfl
theorem Zqy:Zl 98 f98:=fun _ _=>Zd rfl rfl (by decide +kernel) rfl func98 rfl
theorem ZyB:Zl 99 f99:=fun _ _=>Zd rfl rfl (by decide +kernel) rfl func99 rfl
theorem ZvJ:Zl 100 f100:=fun _ _=>Zd rfl rfl (by decide +kernel) rfl func100 rfl
theorem Zv3:Zl 107 f107:=fun _ _=>Zd rfl rfl (by decide +kernel) rfl func107 rfl
theorem Zum:Zl 108 f108:=fun _ _=>Zd rfl rfl (by decide +kernel) rfl func108 rfl
theorem Zvj:Zl 109 f109:=fun _ _=>Zd rfl rfl (by decide +kernel) rfl func109 rfl
theorem ZvP:Zl 110 f110:=fun _ _=>Zd rfl rfl (by decide +kernel) rfl func110 rfl
theorem Zm9:Zl 111 f111:=fun _ _=>Zd rfl rfl (by decide +kernel) rfl func111 rfl
theorem ZvC:Zl 112 f112:=fun _ _=>Zd rfl rfl (by decide +kernel) rfl func112 rfl
theorem Zub:Zl 113 f113:=fun _ _=>Zd rfl rfl (by decide +kernel) rfl func113 rfl
theorem Zu5:Zl 114 f114:=fun _ _=>Zd rfl rfl (by decide +kernel) rfl func114 rfl
theorem ZiJ:Zl 115 f115:=fun _ _=>Zd rfl rfl (by decide +kernel) rfl func115 rfl
theorem Zu7:Zl 116 f116:=fun _ _=>Zd rfl rfl (by decide +kernel) rfl func116 rfl
theorem ZuX:Zl 117 f117:=fun _ _=>Zd rfl rfl (by decide +kernel) rfl func117 rfl
theorem Zvq{args:List AV}{h:Za}(hp:K.prim 118 args=none)(hh:K.primH 118 args h=none):R K (.call 118 args h)=R K (.run 118 h.length [.code (f118.body.getD .skip)] (QS 0 args) h):=Zd hp hh (by decide +kernel) rfl func118 rfl
theorem ZuB:Zl 119 f119:=fun _ _=>Zd rfl rfl (by decide +kernel) rfl func119 rfl
theorem Zal:Zl 120 f120:=fun _ _=>Zd rfl rfl (by decide +kernel) rfl func120 rfl
theorem Zbt:Zl 121 f121:=fun _ _=>Zd rfl rfl (by decide +kernel) rfl func121 rfl
theorem ZcY:Zl 122 f122:=fun _ _=>Zd rfl rfl (by decide +kernel) rfl func122 rfl
theorem Zbp:Zl 123 f123:=fun _ _=>Zd rfl rfl (by decide +kernel) rfl func123 rfl
theorem Ztf:Zl 124 f124:=fun _ _=>Zd rfl rfl (by decide +kernel) rfl func124 rfl
theorem ZuE:Zl 125 f125:=fun _ _=>Zd rfl rfl (by decide +kernel) rfl func125 rfl
theorem ZhZ:Zl 126 f126:=fun _ _=>Zd rfl rfl (by decide +kernel) rfl func126 rfl
theorem Zu9:Zl 127 f127:=fun _ _=>Zd rfl rfl (by decide +kernel) rfl func127 rfl
theorem ZuO:Zl 128 f128:=fun _ _=>Zd rfl rfl (by decide +kernel) rfl func128 rfl
theorem ZuG:Zl 130 f130:=fun _ _=>Zd rfl rfl (by decide +kernel) rfl func130 rfl
theorem ZwG:Zl 131 f131:=fun _ _=>Zd rfl rfl (by decide +kernel) rfl func131 rfl
theorem ZtR:Zl 132 f132:=fun _ _=>Zd rfl rfl (by decide +kernel) rfl func132 rfl
theorem ZuN:Zl 133 f133:=fun _ _=>Zd rfl rfl (by decide +kernel) rfl func133 rfl
theorem WM:Zl 134 f134:=fun _ _=>Zd rfl rfl (by decide +kernel) rfl func134 rfl
theorem Zw3:Zl 135 f135:=fun _ _=>Zd rfl rfl (by decide +kernel) rfl func135 rfl
theorem ZvZ:Zl 136 f136:=fun _ _=>Zd rfl rfl (by decide +kernel) rfl func136 rfl
theorem ZwK:Zl 137 f137:=fun _ _=>Zd rfl rfl (by decide +kernel) rfl func137 rfl
theorem Zvd:Zl 138 f138:=fun _ _=>Zd rfl rfl (by decide +kernel) rfl func138 rfl
theorem WI:Zl 139 f139:=fun _ _=>Zd rfl rfl (by decide +kernel) rfl func139 rfl
theorem ZuP:Zl 140 f140:=fun _ _=>Zd rfl rfl (by decide +kernel) rfl func140 rfl
theorem ZwJ:Zl 142 f142:=fun _ _=>Zd rfl rfl (by decide +kernel) rfl func142 rfl
theorem ZwP:Zl 143 f143:=fun _ _=>Zd rfl rfl (by decide +kernel) rfl func143 rfl
theorem Znc:Zl 180 f180:=fun _ _=>Zd rfl rfl (by decide +kernel) rfl func180 rfl
theorem Zou:Zl 186 f186:=fun _ _=>Zd rfl rfl (by decide +kernel) rfl func186 rfl
theorem Zv7:Zl 187 f187:=fun _ _=>Zd rfl rfl (by decide +kernel) rfl func187 rfl
theorem Zwy:Zl 188 f188:=fun _ _=>Zd rfl rfl (by decide +kernel) rfl func188 rfl
theorem Zth:Zl 189 f189:=fun _ _=>Zd rfl rfl (by decide +kernel) rfl func189 rfl
theorem ZmO:Zl 190 f190:=fun _ _=>Zd rfl rfl (by decide +kernel) rfl func190 rfl
theorem Zwi:Zl 191 f191:=fun _ _=>Zd rfl rfl (by decide +kernel) rfl func191 rfl
theorem Zwb:Zl 192 f192:=fun _ _=>Zd rfl rfl (by decide +kernel) rfl func192 rfl
theorem ZsZ:Zl 193 f193:=fun _ _=>Zd rfl rfl (by decide +kernel) rfl func193 rfl
theorem Zop:Zl 194 f194:=fun _ _=>Zd rfl rfl (by decide +kernel) rfl func194 rfl
theorem Ztp:Zl 195 f195:=fun _ _=>Zd rfl rfl (by decide +kernel) rfl func195 rfl
theorem Zv4:Zl 196 f196:=fun _ _=>Zd rfl rfl (by decide +kernel) rfl func196 rfl
theorem ZwS:Zl 197 f197:=fun _ _=>Zd rfl rfl (by decide +kernel) rfl func197 rfl
theorem ZfC:Zl 198 f198:=fun _ _=>Zd rfl rfl (by decide +kernel) rfl func198 rfl
theorem Zxh:Zl 199 f199:=fun _ _=>Zd rfl rfl (by decide +kernel) rfl func199 rfl
theorem Ztb:Zl 200 f200:=fun _ _=>Zd rfl rfl (by decide +kernel) rfl func200 rfl
theorem ZmY:Zl 201 f201:=fun _ _=>Zd rfl rfl (by decide +kernel) rfl func201 rfl
theorem Zwu:Zl 202 f202:=fun _ _=>Zd rfl rfl (by decide +kernel) rfl func202 rfl
theorem Zv0:Zl 203 f203:=fun _ _=>Zd rfl rfl (by decide +kernel) rfl func203 rfl
theorem Zt6:Zl 204 f204:=fun _ _=>Zd rfl rfl (by decide +kernel) rfl func204 rfl
theorem Zuv:Zl 205 f205:=fun _ _=>Zd rfl rfl (by decide +kernel) rfl func205 rfl
theorem ZcL:Zl 206 f206:=fun _ _=>Zd rfl rfl (by decide +kernel) rfl func206 rfl
theorem Znd:Zl 207 f207:=fun _ _=>Zd rfl rfl (by decide +kernel) rfl func207 rfl
theorem ZtK:Zl 208 f208:=fun _ _=>Zd rfl rfl (by decide +kernel) rfl func208 rfl
theorem ZwZ:Zl 209 f209:=fun _ _=>Zd rfl rfl (by decide +kernel) rfl func209 rfl
theorem Zw5:Zl 210 f210:=fun _ _=>Zd rfl rfl (by decide +kernel) rfl func210 rfl
theorem Zu0:Zl 211 f211:=fun _ _=>Zd rfl rfl (by decide +kernel) rfl func211 rfl
theorem Zvk:Zl 212 f212:=fun _ _=>Zd rfl rfl (by decide +kernel) rfl func212 rfl
theorem Zud:Zl 213 f213:=fun _ _=>Zd rfl rfl (by decide +kernel) rfl func213 rfl
theorem Zux:Zl 214 f214:=fun _ _=>Zd rfl rfl (by decide +kernel) rfl func214 rfl
theorem Zay:Zl 215 f215:=fun _ _=>Zd rfl rfl (by decide +kernel) rfl func215 rfl
theorem ZtJ:Zl 216 f216:=fun _ _=>Zd rfl rfl (by decide +kernel) rfl func216 rfl
theorem ZoG:Zl 217 f217:=fun _ _=>Zd rfl rfl (by decide +kernel) rfl func217 rfl
theorem Ztw:Zl 218 f218:=fun _ _=>Zd rfl rfl (by decide +kernel) rfl func218 rfl
theorem Zui:Zl 219 f219:=fun _ _=>Zd rfl rfl (by decide +kernel) rfl func219 rfl
theorem Zjg:Zl 220 f220:=fun _ _=>Zd rfl rfl (by decide +kernel) rfl func220 rfl
theorem ZvU:Zl 221 f221:=fun _ _=>Zd rfl rfl (by decide +kernel) rfl func221 rfl
theorem ZtB:Zl 222 f222:=fun _ _=>Zd rfl rfl (by decide +kernel) rfl func222 rfl
theorem ZtU:Zl 223 f223:=fun _ _=>Zd rfl rfl (by decide +kernel) rfl func223 rfl
theorem Zxj:Zl 224 f224:=fun _ _=>Zd rfl rfl (by decide +kernel) rfl func224 rfl
theorem Zxf:Zl 232 f232:=fun _ _=>Zd rfl rfl (by decide +kernel) rfl func232 rfl
theorem Zwc:Zl 233 f233:=fun _ _=>Zd rfl rfl (by decide +kernel) rfl func233 rfl
theorem ZtH:Zl 234 f234:=fun _ _=>Zd rfl rfl (by decide +kernel) rfl func234 rfl
theorem Zvo:Zl 235 f235:=fun _ _=>Zd rfl rfl (by decide +kernel) rfl func235 rfl
theorem ZnR:Zl 236 f236:=fun _ _=>Zd rfl rfl (by decide +kernel) rfl func236 rfl
theorem Wl:Zl 237 f237:=fun _ _=>Zd rfl rfl (by decide +kernel) rfl func237 rfl
theorem Zs5:Zl 238 f238:=fun _ _=>Zd rfl rfl (by decide +kernel) rfl func238 rfl
theorem ZuQ:Zl 239 f239:=fun _ _=>Zd rfl rfl (by decide +kernel) rfl func239 rfl
theorem Zxl:Zl 240 f240:=fun _ _=>Zd rfl rfl (by decide +kernel) rfl func240 rfl
theorem ZvE:Zl 241 f241:=fun _ _=>Zd rfl rfl (by decide +kernel) rfl func241 rfl
theorem Zvn:Zl 244 f244:=fun _ _=>Zd rfl rfl (by decide +kernel) rfl func244 rfl
theorem Zvc:Zl 246 f246:=fun _ _=>Zd rfl rfl (by decide +kernel) rfl func246 rfl
theorem Zva:Zl 251 f251:=fun _ _=>Zd rfl rfl (by decide +kernel) rfl func251 rfl
theorem ZcC:Zl 257 f257:=fun _ _=>Zd rfl rfl (by decide +kernel) rfl func257 rfl
theorem Ztx:Zl 277 f277:=fun _ _=>Zd rfl rfl (by decide +kernel) rfl func277 rfl
theorem Zto:Zl 280 f280:=fun _ _=>Zd rfl rfl (by decide +kernel) rfl func280 rfl
theorem ZmR:Zl 283 f283:=fun _ _=>Zd rfl rfl (by decide +kernel) rfl func283 rfl
theorem ZtC:Zl 284 f284:=fun _ _=>Zd rfl rfl (by decide +kernel) rfl func284 rfl
theorem Zt2:Zl 285 f285:=fun _ _=>Zd rfl rfl (by decide +kernel) rfl func285 rfl
theorem ZiK:Zl 286 f286:=fun _ _=>Zd rfl rfl (by decide +kernel) rfl func286 rfl
theorem Zup:Zl 287 f287:=fun _ _=>Zd rfl rfl (by decide +kernel) rfl func287 rfl
theorem ZvY:Zl 288 f288:=fun _ _=>Zd rfl rfl (by decide +kernel) rfl func288 rfl
theorem ZnI:Zl 289 f289:=fun _ _=>Zd rfl rfl (by decide +kernel) rfl func289 rfl
theorem ZwT:Zl 290 f290:=fun _ _=>Zd rfl rfl (by decide +kernel) rfl func290 rfl
theorem ZtM:Zl 291 f291:=fun _ _=>Zd rfl rfl (by decide +kernel) rfl func291 rfl
theorem Zvw:Zl 292 f292:=fun _ _=>Zd rfl rfl (by decide +kernel) rfl func292 rfl
theorem Zs3:Zl 293 f293:=fun _ _=>Zd rfl rfl (by decide +kernel) rfl func293 rfl
theorem ZvG:Zl 294 f294:=fun _ _=>Zd rfl rfl (by decide +kernel) rfl func294 rfl
theorem ZwN:Zl 295 f295:=fun _ _=>Zd rfl rfl (by decide +kernel) rfl func295 rfl
theorem Zid:Zl 296 f296:=fun _ _=>Zd rfl rfl (by decide +kernel) rfl func296 rfl
theorem JD:Zl 297 f297:=fun _ _=>Zd rfl rfl (by decide +kernel) rfl func297 rfl
theorem Zw1:Zl 298 f298:=fun _ _=>Zd rfl rfl (by decide +kernel) rfl func298 rfl
theorem ZvH:Zl 299 f299:=fun _ _=>Zd rfl rfl (by decide +kernel) rfl func299 rfl
theorem Ztk:Zl 300 f300:=fun _ _=>Zd rfl rfl (by decide +kernel) rfl func300 rfl
theorem Zwn:Zl 301 f301:=fun _ _=>Zd rfl rfl (by decide +kernel) rfl func301 rfl
theorem ZwX:Zl 302 f302:=fun _ _=>Zd rfl rfl (by decide +kernel) rfl func302 rfl
theorem Zxm:Zl 303 f303:=fun _ _=>Zd rfl rfl (by decide +kernel) rfl func303 rfl
theorem Zww:Zl 304 f304:=fun _ _=>Zd rfl rfl (by decide +kernel) rfl func304 rfl
theorem ZvT:Zl 305 f305:=fun _ _=>Zd rfl rfl (by decide +kernel) rfl func305 rfl
theorem ZtA:Zl 310 f310:=fun _ _=>Zd rfl rfl (by decide +kernel) rfl func310 rfl
theorem Zxb:Zl 311 f311:=fun _ _=>Zd rfl rfl (by decide +kernel) rfl func311 rfl
theorem Zcs:Zl 313 f313:=fun _ _=>Zd rfl rfl (by decide +kernel) rfl func313 rfl
theorem Qd:Zl 316 f316:=fun _ _=>Zd rfl rfl (by decide +kernel) rfl func316 rfl
theorem Zvh:Zl 330 f330:=fun _ _=>Zd rfl rfl (by decide +kernel) rfl func330 rfl
theorem ZnM:Zl 335 f335:=fun _ _=>Zd rfl rfl (by decide +kernel) rfl func335 rfl
theorem Zuu:Zl 337 f337:=fun _ _=>Zd rfl rfl (by decide +kernel) rfl func337 rfl
theorem WK:Zl 338 f338:=fun _ _=>Zd rfl rfl (by decide +kernel) rfl func338 rfl
theorem Qb:Zl 339 f339:=fun _ _=>Zd rfl rfl (by decide +kernel) rfl func339 rfl
theorem ZuR:Zl 344 f344:=fun _ _=>Zd rfl rfl (by decide +kernel) rfl func344 rfl
theorem ZaJ:Zl 348 f348:=fun _ _=>Zd rfl rfl (by decide +kernel) rfl func348 rfl
theorem Zwj:Zl 362 f362:=fun _ _=>Zd rfl rfl (by decide +kernel) rfl func362 rfl
theorem Zt9:Zl 363 f363:=fun _ _=>Zd rfl rfl (by decide +kernel) rfl func363 rfl
theorem ZaB:Zl 369 f369:=fun _ _=>Zd rfl rfl (by decide +kernel) rfl func369 rfl
theorem Zxg:Zl 371 f371:=fun _ _=>Zd rfl rfl (by decide +kernel) rfl func371 rfl
theorem Zwl:Zl 372 f372:=fun _ _=>Zd rfl rfl (by decide +kernel) rfl func372 rfl
theorem Zus:Zl 378 f378:=fun _ _=>Zd rfl rfl (by decide +kernel) rfl func378 rfl
theorem ZwW:Zl 379 f379:=fun _ _=>Zd rfl rfl (by decide +kernel) rfl func379 rfl
theorem Zvp:Zl 384 f384:=fun _ _=>Zd rfl rfl (by decide +kernel) rfl func384 rfl
theorem Zv1:Zl 385 f385:=fun _ _=>Zd rfl rfl (by decide +kernel) rfl func385 rfl
theorem Zvv:Zl 391 f391:=fun _ _=>Zd rfl rfl (by decide +kernel) rfl func391 rfl
theorem ZtG:Zl 398 f398:=fun _ _=>Zd rfl rfl (by decide +kernel) rfl func398 rfl
@[go_sem]theorem ZEX:K.bT=179∧ZjD K (some 22)=true∧ZjD K (some 26)=true∧ZjD K (some 36)=false∧ZjD K (some 41)=true∧ZjD K (some 42)=false∧ZjD K (some 43)=false∧ZjD K (some 82)=true∧K.nlT 22=false∧K.wrB 22=false∧K.nlT 26=true∧K.wrB 26=false:=⟨rfl,rfl,rfl,rfl,rfl,rfl,rfl,rfl,rfl,rfl,rfl,rfl⟩
@[go_sem]theorem ZED:K.nlT 36=false∧K.wrB 36=false∧K.nlT 41=true∧K.wrB 41=false∧K.nlT 42=true∧K.wrB 42=false∧K.nlT 43=true∧K.wrB 43=false∧K.nlT 65=false∧K.wrB 65=false∧K.nlT 82=false∧K.wrB 82=false:=⟨rfl,rfl,rfl,rfl,rfl,rfl,rfl,rfl,rfl,rfl,rfl,rfl⟩
@[go_sem]theorem ZDz:K.nlT 259=false∧K.wrB 259=false∧K.nlT 335=false∧K.wrB 335=false∧ar prog 334=some (2,3,1)∧ar prog 340=some (6,3,1)∧ck prog 182=.iface∧ck prog 26=.no∧ck prog 265=.ptr∧ck prog 33=.flat [.int,.int,.str]∧ck prog 35=.flat [.str,.int,.bool,.int,.int,.str]∧ck prog 36=.no:=⟨rfl,rfl,rfl,rfl,rfl,rfl,by kernel_rfl,by kernel_rfl,by kernel_rfl,by kernel_rfl,by kernel_rfl,by kernel_rfl⟩
@[go_sem]theorem ZEQ:ck prog 41=.no∧ck prog 42=.no∧ck prog 43=.no∧Zcl prog 21 9=.str∧Zcl prog 3 21=.int .i32∧Zcl prog 5 3=.int .i64∧Zcl prog 9 145=.bytes∧es prog 145=some (1,1)∧es prog 22=some (1,8)∧es prog 259=some (1,8)∧es prog 26=some (5,112)∧es prog 335=some (2,16):=⟨by kernel_rfl,by kernel_rfl,by kernel_rfl,rfl,rfl,rfl,rfl,rfl,rfl,rfl,rfl,rfl⟩
@[go_sem]theorem ZER:es prog 36=some (1,16)∧es prog 41=some (6,64)∧es prog 42=some (3,56)∧es prog 43=some (3,48)∧es prog 65=some (1,24)∧es prog 82=some (3,32)∧FoR 103 0 (0,4)∧FoR 103 1 (1,4)∧FoR 103 2 (2,4)∧FoR 103 4 (4,4)∧FoR 103 5 (5,4)∧FoR 103 6 (6,4):=⟨rfl,rfl,rfl,rfl,rfl,rfl,rfl,rfl,rfl,rfl,rfl,rfl⟩
@[go_sem]theorem ZCr:FoR 103 7 (7,4)∧FoR 109 0 (0,28)∧FoR 109 1 (1,47)∧FoR 109 2 (23,56)∧FoR 25 0 (0,22)∧FoR 25 1 (1,3)∧FoR 28 0 (0,26)∧FoR 33 0 (0,3)∧FoR 33 1 (1,3)∧FoR 33 2 (2,9)∧FoR 35 0 (0,9)∧FoR 35 1 (1,3):=⟨rfl,rfl,rfl,rfl,rfl,rfl,rfl,rfl,rfl,rfl,rfl,rfl⟩
@[go_sem]theorem ZDs:FoR 35 2 (2,4)∧FoR 35 3 (3,33)∧FoR 38 0 (0,9)∧FoR 38 1 (1,36)∧FoR 38 2 (2,4)∧FoR 40 0 (0,9)∧FoR 40 1 (1,36)∧FoR 40 2 (2,9)∧FoR 45 0 (0,9)∧FoR 45 1 (1,41)∧FoR 45 2 (2,36)∧FoR 45 3 (3,42):=⟨rfl,rfl,rfl,rfl,rfl,rfl,rfl,rfl,rfl,rfl,rfl,rfl⟩
@[go_sem]theorem ZDr:FoR 45 4 (4,43)∧FoR 47 0 (0,3)∧FoR 47 1 (1,9)∧FoR 47 2 (2,9)∧FoR 47 3 (3,9)∧FoR 47 4 (4,35)∧FoR 47 5 (10,38)∧FoR 47 6 (13,40)∧FoR 47 7 (16,45)∧FoR 47 8 (21,36)∧ZoX prog 26=true∧ZoX prog 36=true:=⟨rfl,rfl,rfl,rfl,rfl,rfl,rfl,rfl,rfl,rfl,rfl,rfl⟩
@[go_sem]theorem ZEb:ZoX prog 41=true∧ZoX prog 42=true∧ZoX prog 43=true∧plc prog 103=some (.fields [(0,1),(1,1),(2,1),(3,1),(4,1),(5,1),(6,1),(7,1)])∧plc prog 109=some (.fields [(0,1),(1,22),(23,1)])∧plc prog 25=some (.fields [(0,1),(1,1)])∧plc prog 28=some (.fields [(0,1)])∧plc prog 33=some (.fields [(0,1),(1,1),(2,1)])∧plc prog 334=some (.elems 1)∧plc prog 340=some (.elems 1)∧plc prog 35=some (.fields [(0,1),(1,1),(2,1),(3,3)])∧plc prog 38=some (.fields [(0,1),(1,1),(2,1)]):=⟨rfl,rfl,rfl,rfl,rfl,rfl,rfl,rfl,rfl,rfl,rfl,rfl⟩
@[go_sem]theorem ZD4:plc prog 40=some (.fields [(0,1),(1,1),(2,1)])∧plc prog 45=some (.fields [(0,1),(1,1),(2,1),(3,1),(4,1)])∧plc prog 47=some (.fields [(0,1),(1,1),(2,1),(3,1),(4,6),(10,3),(13,3),(16,5),(21,1)])∧sh prog 103=some (.agg 8)∧sh prog 107=some .one∧sh prog 22=some .one∧sh prog 26=some .one∧sh prog 262=some .one∧sh prog 28=some (.agg 1)∧sh prog 3=some .one∧sh prog 33=some (.agg 3)∧sh prog 334=some (.agg 2):=⟨rfl,rfl,rfl,rfl,rfl,rfl,rfl,rfl,rfl,rfl,rfl,rfl⟩
@[go_sem]theorem ZEN:sh prog 340=some (.agg 6)∧sh prog 35=some (.agg 6)∧sh prog 36=some .one∧sh prog 38=some (.agg 3)∧sh prog 4=some .one∧sh prog 40=some (.agg 3)∧sh prog 41=some .one∧sh prog 42=some .one∧sh prog 43=some .one∧sh prog 45=some (.agg 5)∧sh prog 47=some (.agg 22)∧sh prog 5=some .one:=⟨rfl,rfl,rfl,rfl,rfl,rfl,rfl,rfl,rfl,rfl,rfl,rfl⟩
@[go_sem]theorem ZEP:sh prog 56=some .one∧sh prog 84=some .one∧sh prog 9=some .one∧J9 prog 103=some (8)∧J9 prog 26=some (1)∧J9 prog 28=some (1)∧J9 prog 3=some (1)∧J9 prog 33=some (3)∧J9 prog 334=some (2)∧J9 prog 340=some (6)∧J9 prog 35=some (6)∧J9 prog 36=some (1):=⟨rfl,rfl,rfl,rfl,rfl,rfl,rfl,rfl,rfl,rfl,rfl,rfl⟩
@[go_sem]theorem ZEU:J9 prog 38=some (3)∧J9 prog 4=some (1)∧J9 prog 40=some (3)∧J9 prog 41=some (1)∧J9 prog 42=some (1)∧J9 prog 43=some (1)∧J9 prog 45=some (5)∧J9 prog 47=some (22)∧J9 prog 56=some (1)∧J9 prog 9=some (1)∧tk prog 145=.slice 1 1∧tk prog 22=.slice 1 8:=⟨rfl,rfl,rfl,rfl,rfl,rfl,rfl,rfl,rfl,rfl,rfl,rfl⟩
@[go_sem]theorem ZEd:tk prog 259=.slice 1 8∧tk prog 26=.slice 5 112∧tk prog 335=.slice 2 16∧tk prog 36=.slice 1 16∧tk prog 41=.slice 6 64∧tk prog 42=.slice 3 56∧tk prog 43=.slice 3 48∧tk prog 82=.slice 3 32∧tk prog 9=.str∧zv prog 103=some (.agg [.bool false,.bool false,.bool false,.bool false,.bool false,.bool false,.bool false,.bool false])∧zv prog 109=some (.agg [.nils,.int .i64 0,.str [],.str [],.str [],.str [],.int .i64 0,.bool false,.int .i64 0,.int .i64 0,.str [],.str [],.nils,.bool false,.str [],.nils,.str [],.str [],.nils,.nils,.nils,.nils,.nils,.nilp])∧zv prog 25=some (.agg [.nils,.int .i64 0]):=⟨rfl,rfl,rfl,rfl,rfl,rfl,rfl,rfl,rfl,rfl,rfl,rfl⟩
@[go_sem]theorem ZEW:zv prog 28=some (.agg [.nils])∧zv prog 3=some (.int .i64 0)∧zv prog 33=some (.agg [.int .i64 0,.int .i64 0,.str []])∧zv prog 334=some (.agg [.int .i64 0,.int .i64 0])∧zv prog 340=some (.agg [.int .i64 0,.int .i64 0,.int .i64 0,.int .i64 0,.int .i64 0,.int .i64 0])∧zv prog 35=some (.agg [.str [],.int .i64 0,.bool false,.int .i64 0,.int .i64 0,.str []])∧zv prog 38=some (.agg [.str [],.nils,.bool false])∧zv prog 40=some (.agg [.str [],.nils,.str []])∧zv prog 45=some (.agg [.str [],.nils,.nils,.nils,.nils])∧zv prog 47=some (.agg [.int .i64 0,.str [],.str [],.str [],.str [],.int .i64 0,.bool false,.int .i64 0,.int .i64 0,.str [],.str [],.nils,.bool false,.str [],.nils,.str [],.str [],.nils,.nils,.nils,.nils,.nils])∧zv prog 9=some (.str [])∧LvO 3 0 ([3,4,16],[],[]) []:=⟨rfl,rfl,rfl,rfl,rfl,rfl,rfl,rfl,rfl,rfl,rfl,⟨rfl,rfl⟩⟩
@[go_sem]theorem ZDw:K.out 3 1=none∧DyR 3 8 []∧LvO 4 0 ([0,2,3,16,17],[(3,some 0,5,false)],[]) [0,2,3]∧K.out 4 1=none∧LvO 4 2 ([0,2,3,34,35],[],[]) [2,3]∧K.out 4 3=none∧LvO 4 4 ([0,2,3,5,6,7,34,35,67,68,69],[(7,some 1,1,false)],[]) [0,2,3,5,7,34,35]∧K.out 4 5=none∧LvO 4 6 ([0,2,3,5,6,7,10,34,35,67,68,69,85,86,87],[],[]) [0,2,3,5,6,7,34,35,67,68,69]∧K.out 4 7=none∧DyR 4 5 [(8,20)]∧DyR 4 9 [(6,37),(6,45),(6,48),(14,37),(14,38),(14,45)]:=⟨rfl,rfl,⟨rfl,rfl⟩,rfl,⟨rfl,rfl⟩,rfl,⟨rfl,rfl⟩,rfl,⟨rfl,rfl⟩,rfl,rfl,rfl⟩
@[go_sem]theorem ZDm:DyR 4 10 []∧DyR 4 14 [(5,73)]∧DyR 4 24 []∧DyR 4 25 [(7,132),(7,7),(7,140),(10,132)]∧K.out 6 0=none∧DyR 6 4 [(6,15)]∧DyR 6 7 [(10,35),(12,35)]∧DyR 6 13 [(10,75),(12,75)]∧DyR 6 15 [(10,92),(13,92)]∧DyR 6 19 [(5,129),(5,130),(5,131),(8,129),(8,130),(8,131),(16,124),(16,127),(16,129),(16,130),(16,131)]∧DyR 6 21 [(5,160),(5,161),(8,160),(8,161),(13,150),(13,153),(13,160),(13,161),(20,150),(20,153),(20,155),(20,158),(20,160),(20,161)]∧K.out 7 0=none:=⟨rfl,rfl,rfl,rfl,rfl,rfl,rfl,rfl,rfl,rfl,rfl,rfl⟩
@[go_sem]theorem ZCv:LvO 7 1 ([0,4,5,6,162,163,164],[],[]) [0,4,6]∧K.out 7 2=none∧K.out 7 3=none∧DyR 7 3 [(6,27)]∧DyR 7 4 [(1,38)]∧DyR 7 5 [(6,41)]∧DyR 7 22 [(2,107),(2,108),(9,102),(9,105),(9,107),(9,108),(12,102),(12,105),(12,107),(12,108)]∧DyR 7 26 [(6,125)]∧DyR 7 27 [(2,139),(2,141),(2,142),(12,134),(12,137),(12,139),(12,141),(12,142)]∧DyR 7 35 []∧K.out 9 0=none∧LvO 12 0 ([0,4,5,33,34],[],[]) [0,4,5]:=⟨⟨rfl,rfl⟩,rfl,rfl,rfl,rfl,rfl,rfl,rfl,rfl,rfl,rfl,⟨rfl,rfl⟩⟩
@[go_sem]theorem ZCR:K.out 12 1=none∧LvO 12 2 ([0,4,5,51,52],[(5,some 4,3,false)],[]) [4,5]∧K.out 12 3=none∧LvO 12 4 ([0,4,5,8,51,52,74,75,76],[(8,some 1,1,false)],[]) [0,4,5,8,51,52]∧K.out 12 5=none∧DyR 12 3 [(4,18)]∧DyR 12 8 [(8,37)]∧DyR 12 14 [(4,69),(10,73)]∧DyR 12 17 []∧DyR 13 4 []∧DyR 13 5 []∧LvO 14 0 ([0,1,7,8],[],[]) []:=⟨rfl,⟨rfl,rfl⟩,rfl,⟨rfl,rfl⟩,rfl,rfl,rfl,rfl,rfl,rfl,rfl,⟨rfl,rfl⟩⟩
@[go_sem]theorem ZCG:K.out 14 1=none∧LvO 20 0 ([1,19,20,21],[],[]) [1]∧K.out 20 1=none∧LvO 20 2 ([1,49,50,51],[],[]) []∧K.out 20 3=none∧LvO 20 4 ([1,8,49,50,51,56,57,58],[],[]) [1,49,50,51]∧K.out 20 5=none∧LvO 20 6 ([1,8,10,11,49,50,51,56,57,58,84,85,86],[],[]) [1,8,49,50,51,56,57,58]∧K.out 20 7=none∧DyR 20 6 []∧DyR 20 22 []∧DyR 20 27 []:=⟨rfl,⟨rfl,rfl⟩,rfl,⟨rfl,rfl⟩,rfl,⟨rfl,rfl⟩,rfl,⟨rfl,rfl⟩,rfl,rfl,rfl,rfl⟩
@[go_sem]theorem ZCs:K.out 23 0=none∧LvO 26 0 ([0,1,5,9,10],[(5,none,1,true)],[]) [0,1,5]∧K.out 26 1=none∧LvO 26 2 ([0,5,7],[],[]) [5]∧K.out 26 3=none∧DyR 26 11 []∧K.out 27 0=none∧DyR 27 9 [(1,3)]∧K.out 30 0=none∧DyR 30 5 []∧K.out 31 0=none∧LvO 31 1 ([2,3,4,60,61,62],[],[]) [2,4]:=⟨rfl,⟨rfl,rfl⟩,rfl,⟨rfl,rfl⟩,rfl,rfl,rfl,rfl,rfl,rfl,rfl,⟨rfl,rfl⟩⟩
@[go_sem]theorem ZCV:K.out 31 2=none∧LvO 31 3 ([2,3,4,7,60,61,62,68,69],[],[]) [2,3,4,60,61,62]∧K.out 31 4=none∧LvO 31 5 ([2,4,5,9,10,179,180,181],[(10,none,6,true)],[]) [2,4,5,10]∧K.out 31 6=none∧LvO 31 7 ([2,4,206,207,208],[],[]) [2,4]∧K.out 31 8=none∧DyR 31 4 [(5,28),(999,5)]∧DyR 31 6 [(6,31)]∧DyR 31 17 []∧DyR 31 22 [(12,92)]∧DyR 31 24 [(12,109)]:=⟨rfl,⟨rfl,rfl⟩,rfl,⟨rfl,rfl⟩,rfl,⟨rfl,rfl⟩,rfl,rfl,rfl,rfl,rfl,rfl⟩
@[go_sem]theorem ZBT:DyR 31 26 [(10,126),(999,10)]∧DyR 31 28 [(12,141)]∧DyR 31 30 [(10,158),(999,10)]∧DyR 31 37 [(5,186)]∧LvO 41 0 ([0,1,7,8],[],[]) []∧K.out 41 1=none∧LvO 42 0 ([0,1,7,8],[],[]) []∧K.out 42 1=none∧K.out 44 0=none∧LvO 45 0 ([1,41,42,43],[],[]) [1]∧K.out 45 1=none∧K.out 45 2=none:=⟨rfl,rfl,rfl,rfl,⟨rfl,rfl⟩,rfl,⟨rfl,rfl⟩,rfl,rfl,⟨rfl,rfl⟩,rfl,rfl⟩
@[go_sem]theorem ZBR:LvO 45 3 ([1,77,78,79],[],[]) [1]∧K.out 45 4=none∧K.out 45 5=none∧LvO 45 6 ([1,106,107,108],[],[]) [1]∧K.out 45 7=none∧LvO 45 8 ([1,138,139,140],[],[]) []∧K.out 45 9=none∧K.out 45 10=none∧DyR 45 8 []∧DyR 45 30 []∧DyR 45 40 []∧K.out 47 0=none:=⟨⟨rfl,rfl⟩,rfl,rfl,⟨rfl,rfl⟩,rfl,⟨rfl,rfl⟩,rfl,rfl,rfl,rfl,rfl,rfl⟩
@[go_sem]theorem ZB5:LvO 48 0 ([0,3,4,18,19],[],[]) [4]∧K.out 48 1=none∧DyR 48 2 [(2,9),(7,7),(7,10)]∧K.out 50 0=none∧K.out 52 0=none∧LvO 54 0 ([2,3,9,10,11],[(3,none,5,true)],[]) [2,3]∧K.out 54 1=none∧LvO 54 2 ([2,3,5,9,10,11,33,34],[],[]) [2,3,5,9,10,11]∧K.out 54 3=none∧LvO 54 4 ([2,3,5,9,10,11,52,53],[],[]) [2,3,5,9,10,11]∧K.out 54 5=none∧DyR 54 5 [(2,18),(5,20)]:=⟨⟨rfl,rfl⟩,rfl,rfl,rfl,rfl,⟨rfl,rfl⟩,rfl,⟨rfl,rfl⟩,rfl,⟨rfl,rfl⟩,rfl,rfl⟩
@[go_sem]theorem ZDi:DyR 54 6 [(2,26),(5,28)]∧DyR 54 10 [(9,37)]∧DyR 54 15 [(9,56)]∧K.out 56 0=none∧K.out 66 0=none∧K.out 66 1=none∧K.out 66 2=none∧LvO 67 0 ([2,3,9,10,11],[],[]) [2,3]∧K.out 67 1=none∧LvO 67 2 ([2,3,5,9,10,11,33,34],[],[]) [2,3,5,9,10,11]∧K.out 67 3=none∧LvO 67 4 ([2,3,5,9,10,11,52,53],[],[]) [2,3,5,9,10,11]:=⟨rfl,rfl,rfl,rfl,rfl,rfl,rfl,⟨rfl,rfl⟩,rfl,⟨rfl,rfl⟩,rfl,⟨rfl,rfl⟩⟩
@[go_sem]theorem ZCk:K.out 67 5=none∧DyR 67 5 [(2,18),(5,20)]∧DyR 67 6 [(2,26),(5,28)]∧DyR 67 10 [(9,37)]∧DyR 67 15 [(9,56)]∧DyR 68 5 []∧LvO 69 0 ([0,1,5,6],[],[]) [0,5]∧K.out 69 1=none∧LvO 71 0 ([0,1,5,6],[],[]) [0,5]∧K.out 71 1=none∧K.out 73 0=none∧LvO 73 1 ([0,3,53,54,55],[],[]) [0,3]:=⟨rfl,rfl,rfl,rfl,rfl,rfl,⟨rfl,rfl⟩,rfl,⟨rfl,rfl⟩,rfl,rfl,⟨rfl,rfl⟩⟩
@[go_sem]theorem ZC8:K.out 73 2=none∧LvO 73 3 ([3,70,71,72],[],[]) []∧K.out 73 4=none∧DyR 73 1 [(5,14)]∧DyR 73 6 []∧DyR 73 7 [(8,49),(999,8)]∧DyR 73 19 []∧DyR 73 25 []∧DyR 73 27 []∧LvO 99 0 ([1,2,7,8,9],[],[]) []∧K.out 99 1=none∧LvO 107 0 ([6,7,8],[],[]) []:=⟨rfl,⟨rfl,rfl⟩,rfl,rfl,rfl,rfl,rfl,rfl,rfl,⟨rfl,rfl⟩,rfl,⟨rfl,rfl⟩⟩
@[go_sem]theorem ZBW:K.out 107 1=none∧LvO 109 0 ([1,7,8],[],[]) []∧K.out 109 1=none∧DyR 114 1 []∧K.out 116 0=none∧K.out 120 0=none∧K.out 120 1=none∧LvO 120 2 ([0,3,85,86,87],[],[]) [0]∧K.out 120 3=none∧LvO 120 4 ([0,3,5,85,86,87,93,94],[],[]) [0,3,85,86,87]∧K.out 120 5=none∧DyR 120 4 [(7,22)]:=⟨rfl,⟨rfl,rfl⟩,rfl,rfl,rfl,rfl,rfl,⟨rfl,rfl⟩,rfl,⟨rfl,rfl⟩,rfl,rfl⟩
@[go_sem]theorem ZB2:DyR 120 6 [(10,28)]∧DyR 120 14 [(6,71)]∧DyR 120 16 []∧DyR 120 23 []∧K.out 121 0=none∧K.out 121 1=none∧K.out 121 2=none∧K.out 121 3=none∧LvO 121 4 ([3,4,130,131,132],[],[]) [3,4]∧K.out 121 5=none∧LvO 121 6 ([3,147,148,149],[],[]) []∧K.out 121 7=none:=⟨rfl,rfl,rfl,rfl,rfl,rfl,rfl,rfl,⟨rfl,rfl⟩,rfl,⟨rfl,rfl⟩,rfl⟩
@[go_sem]theorem ZAL:LvO 121 8 ([3,4,9,164,165,166],[(9,none,6,true)],[]) [4,9]∧K.out 121 9=none∧K.out 121 10=none∧DyR 121 1 [(9,19)]∧DyR 121 4 [(6,32)]∧DyR 121 8 []∧DyR 121 12 [(6,70),(11,75),(17,81)]∧DyR 121 18 [(5,110)]∧DyR 121 20 [(1,114),(999,1)]∧DyR 121 21 [(8,126),(999,8)]∧K.out 122 0=none∧K.out 122 1=none:=⟨⟨rfl,rfl⟩,rfl,rfl,rfl,rfl,rfl,rfl,rfl,rfl,rfl,rfl,rfl⟩
@[go_sem]theorem ZBU:K.out 122 2=none∧DyR 122 1 [(5,11),(999,5)]∧DyR 122 4 [(9,26)]∧DyR 122 7 []∧DyR 122 8 []∧DyR 122 12 [(8,6)]∧DyR 122 22 []∧DyR 122 29 []∧K.out 123 0=none∧DyR 123 1 [(9,15)]∧DyR 123 4 [(6,27)]∧DyR 123 8 []:=⟨rfl,rfl,rfl,rfl,rfl,rfl,rfl,rfl,rfl,rfl,rfl,rfl⟩
@[go_sem]theorem ZAj:DyR 123 11 [(5,57)]∧DyR 123 16 [(6,79)]∧DyR 123 20 []∧DyR 123 23 [(5,109)]∧LvO 124 0 ([0,1,7,8],[],[]) []∧K.out 124 1=none∧DyR 133 1 [(7,15),(11,18)]∧K.out 134 0=none∧LvO 135 0 ([0,1,7,8],[],[]) []∧K.out 135 1=none∧LvO 136 0 ([0,1,7,8],[],[]) []∧K.out 136 1=none:=⟨rfl,rfl,rfl,rfl,⟨rfl,rfl⟩,rfl,rfl,rfl,⟨rfl,rfl⟩,rfl,⟨rfl,rfl⟩,rfl⟩
@[go_sem]theorem ZCd:DyR 137 5 []∧LvO 138 0 ([0,1,2,8,9],[],[]) []∧K.out 138 1=none∧K.out 139 0=none∧LvO 139 1 ([1,2,4,43,44,45],[],[]) [4]∧K.out 139 2=none∧DyR 139 9 [(2,39),(6,42)]∧DyR 139 12 []∧LvO 140 0 ([0,1,2,6,7,8],[],[]) [0,1,2,6,7]∧LvO 140 2 ([0,1,2,6],[],[]) []∧LvO 142 0 ([0,1,2,6,7,8],[],[]) [0,1,2,6,7]∧LvO 142 2 ([0,1,2,6],[],[]) []:=⟨rfl,⟨rfl,rfl⟩,rfl,rfl,⟨rfl,rfl⟩,rfl,rfl,rfl,⟨rfl,rfl⟩,⟨rfl,rfl⟩,⟨rfl,rfl⟩,⟨rfl,rfl⟩⟩
@[go_sem]theorem ZAy:LvO 143 0 ([0,1,2,6,7,8],[],[]) [0,1,2,6,7]∧LvO 143 2 ([0,1,2,6],[],[]) []∧K.out 180 0=none∧K.out 186 0=none∧K.out 198 0=none∧DyR 201 1 []∧LvO 204 0 ([0,1,5,6],[],[]) [0,5]∧K.out 204 1=none∧LvO 206 0 ([0,23,24],[],[]) []∧K.out 206 1=none∧DyR 209 1 [(11,15)]∧LvO 212 0 ([0,1,5,6],[],[]) [0,5]:=⟨⟨rfl,rfl⟩,⟨rfl,rfl⟩,rfl,rfl,rfl,rfl,⟨rfl,rfl⟩,rfl,⟨rfl,rfl⟩,rfl,rfl,⟨rfl,rfl⟩⟩
@[go_sem]theorem ZBY:K.out 212 1=none∧LvO 214 0 ([0,1,2,8,9],[],[]) []∧K.out 214 1=none∧K.out 215 0=none∧K.out 217 0=none∧DyR 221 5 []∧DyR 224 5 []∧LvO 241 0 ([0,1,2,3,8],[],[]) []∧K.out 241 1=none∧LvO 241 2 ([0,1,2,3,8,9],[],[]) [0,1,2,3,8]∧K.out 241 3=none∧DyR 241 4 [(14,32)]:=⟨rfl,⟨rfl,rfl⟩,rfl,rfl,rfl,rfl,rfl,⟨rfl,rfl⟩,rfl,⟨rfl,rfl⟩,rfl,rfl⟩
@[go_sem]theorem ZBS:DyR 241 6 []∧LvO 244 0 ([0,1,2,3,8],[],[]) []∧K.out 244 1=none∧LvO 244 2 ([0,1,2,3,8,9],[],[]) [0,1,2,3,8]∧K.out 244 3=none∧DyR 244 4 [(14,32)]∧DyR 244 6 []∧LvO 246 0 ([0,1,2,3,8],[],[]) []∧K.out 246 1=none∧LvO 246 2 ([0,1,2,3,8,9],[],[]) [0,1,2,3,8]∧K.out 246 3=none∧DyR 246 4 [(14,32)]:=⟨rfl,⟨rfl,rfl⟩,rfl,⟨rfl,rfl⟩,rfl,rfl,rfl,⟨rfl,rfl⟩,rfl,⟨rfl,rfl⟩,rfl,rfl⟩
@[go_sem]theorem ZBZ:DyR 246 6 []∧LvO 251 0 ([0,1,8,9],[],[]) [0]∧K.out 251 1=none∧K.out 257 0=none∧LvO 280 0 ([6,7,8],[],[]) []∧K.out 280 1=none∧K.out 284 0=none∧K.out 286 0=none∧DyR 286 1 []∧DyR 286 4 []∧DyR 286 6 [(6,31)]∧DyR 290 1 []:=⟨rfl,⟨rfl,rfl⟩,rfl,rfl,⟨rfl,rfl⟩,rfl,rfl,rfl,rfl,rfl,rfl,rfl⟩
@[go_sem]theorem ZB1:K.out 296 0=none∧K.out 301 0=none∧K.out 302 0=none∧LvO 302 1 ([1,23,24],[],[]) []∧K.out 302 2=none∧K.out 313 0=none∧LvO 316 0 ([0,2,4,20,21,22],[(4,none,1,true)],[]) [0,2,4]∧K.out 316 1=none∧DyR 316 12 []∧DyR 316 13 []∧DyR 330 2 []∧K.out 338 0=none:=⟨rfl,rfl,rfl,⟨rfl,rfl⟩,rfl,rfl,⟨rfl,rfl⟩,rfl,rfl,rfl,rfl,rfl⟩
@[go_sem]theorem ZAl:LvO 339 0 ([0,2,3,14,15],[],[]) [0,2,3]∧K.out 339 1=none∧DyR 344 2 []∧LvO 348 0 ([0,1,3,4,5,12,13,14],[],[]) [0,1,3,4,5,12,13]∧K.out 348 1=none∧LvO 348 2 ([0,1,3,4,5,12,13,15],[],[]) [3,4,5,12,13]∧K.out 348 3=none∧LvO 362 0 ([2,3,4,5],[],[]) [2,3,4,5]∧K.out 362 1=none∧LvO 362 2 ([2,3,4,5,6],[],[]) [2,3,4,5,6]∧K.out 362 3=none∧LvO 369 0 ([0,1,3,4,5,12,13,14],[],[]) [3,4,5,12,13]:=⟨⟨rfl,rfl⟩,rfl,rfl,⟨rfl,rfl⟩,rfl,⟨rfl,rfl⟩,rfl,⟨rfl,rfl⟩,rfl,⟨rfl,rfl⟩,rfl,⟨rfl,rfl⟩⟩
@[go_sem]theorem ZBV:K.out 369 1=none∧LvO 371 0 ([0,2,3,4,5],[],[]) [0,2,3,4,5]∧K.out 371 1=none∧LvO 371 2 ([0,2,3,4,5],[],[]) [0,2,3,4,5]∧K.out 371 3=none∧K.out 378 0=none∧K.out 385 0=none∧Zr 3 0 [.tmp 2]∧Zr 4 0 [.cell 2 28]∧Zr 5 0 [.tmp 4]∧Zr 6 0 [.cell 4 28]∧Zr 7 0 [.cell 4 47]:=⟨rfl,⟨rfl,rfl⟩,rfl,⟨rfl,rfl⟩,rfl,rfl,rfl,Zj func3 rfl rfl,Zj func4 rfl rfl,Zj func5 rfl rfl,Zj func6 rfl rfl,Zj func7 rfl rfl⟩
@[go_sem]theorem ZES:Zr 8 0 [.tmp 4]∧Zr 9 0 [.tmp 4]∧Zr 11 0 [.tmp 6]∧Zr 12 0 [.cell 4 45]∧Zr 13 0 [.tmp 4]∧Zr 14 0 [.tmp 4]∧Zr 15 0 [.tmp 3]∧Zr 16 0 [.tmp 4]∧Zr 17 1 [.tmp 2]∧Zr 18 0 [.tmp 4]∧Zr 19 1 [.tmp 2]∧Zr 20 0 [.tmp 2]:=⟨Zj func8 rfl rfl,Zj func9 rfl rfl,Zj func11 rfl rfl,Zj func12 rfl rfl,Zj func13 rfl rfl,Zj func14 rfl rfl,Zj func15 rfl rfl,Zj func16 rfl rfl,Zj func17 rfl rfl,Zj func18 rfl rfl,Zj func19 rfl rfl,Zj func20 rfl rfl⟩
@[go_sem]theorem ZEB:Zr 21 1 [.tmp 2]∧Zr 22 1 [.tmp 2]∧Zr 23 0 [.cell 2 33]∧Zr 24 0 [.cell 4 35]∧Zr 25 0 [.cell 4 33]∧Zr 26 0 [.tmp 4]∧Zr 27 5 [.cell 4 28,.tmp 5]∧Zr 28 0 [.tmp 6]∧Zr 29 0 [.tmp 2]∧Zr 30 0 [.tmp 4]∧Zr 31 5 [.cell 4 28]∧Zr 39 0 [.tmp 4]:=⟨Zj func21 rfl rfl,Zj func22 rfl rfl,Zj func23 rfl rfl,Zj func24 rfl rfl,Zj func25 rfl rfl,Zj func26 rfl rfl,Zj func27 rfl rfl,Zj func28 rfl rfl,Zj func29 rfl rfl,Zj func30 rfl rfl,Zj func31 rfl rfl,Zj func39 rfl rfl⟩
@[go_sem]theorem ZEC:Zr 40 0 [.tmp 4]∧Zr 41 0 [.tmp 4]∧Zr 42 0 [.tmp 4]∧Zr 43 0 [.tmp 3]∧Zr 44 0 [.tmp 6]∧Zr 45 0 [.tmp 2]∧Zr 46 0 [.tmp 4]∧Zr 47 0 [.tmp 2]∧Zr 48 0 [.tmp 2]∧Zr 50 0 [.cell 4 33]∧Zr 51 0 [.tmp 2]∧Zr 52 0 [.cell 2 103,.tmp 3]:=⟨Zj func40 rfl rfl,Zj func41 rfl rfl,Zj func42 rfl rfl,Zj func43 rfl rfl,Zj func44 rfl rfl,Zj func45 rfl rfl,Zj func46 rfl rfl,Zj func47 rfl rfl,Zj func48 rfl rfl,Zj func50 rfl rfl,Zj func51 rfl rfl,Zj func52 rfl rfl⟩
@[go_sem]theorem ZEH:Zr 53 0 [.tmp 4]∧Zr 54 5 [.cell 2 28]∧Zr 55 0 [.tmp 4]∧Zr 56 5 [.tmp 2]∧Zr 57 0 [.tmp 3]∧Zr 58 0 [.tmp 4]∧Zr 59 0 [.tmp 6]∧Zr 60 0 [.tmp 4]∧Zr 61 0 [.tmp 6]∧Zr 62 0 [.tmp 4]∧Zr 63 0 [.tmp 4]∧Zr 64 0 [.tmp 4]:=⟨Zj func53 rfl rfl,Zj func54 rfl rfl,Zj func55 rfl rfl,Zj func56 rfl rfl,Zj func57 rfl rfl,Zj func58 rfl rfl,Zj func59 rfl rfl,Zj func60 rfl rfl,Zj func61 rfl rfl,Zj func62 rfl rfl,Zj func63 rfl rfl,Zj func64 rfl rfl⟩
@[go_sem]theorem ZEK:Zr 65 0 [.tmp 4]∧Zr 66 0 [.tmp 6]∧Zr 67 5 [.cell 2 28]∧Zr 68 5 [.tmp 6]∧Zr 69 5 [.tmp 4]∧Zr 70 0 [.tmp 3]∧Zr 71 5 [.tmp 4]∧Zr 72 0 [.tmp 3]∧Zr 73 5 []∧Zr 74 5 []∧Zr 75 0 [.tmp 4]∧Zr 77 5 []:=⟨Zj func65 rfl rfl,Zj func66 rfl rfl,Zj func67 rfl rfl,Zj func68 rfl rfl,Zj func69 rfl rfl,Zj func70 rfl rfl,Zj func71 rfl rfl,Zj func72 rfl rfl,Zj func73 rfl rfl,Zj func74 rfl rfl,Zj func75 rfl rfl,Zj func77 rfl rfl⟩
@[go_sem]theorem ZEy:Zr 78 0 [.tmp 4]∧Zr 79 5 []∧Zr 80 0 [.tmp 4]∧Zr 98 0 [.tmp 4]∧Zr 99 0 [.tmp 4]∧Zr 100 0 [.tmp 3]∧Zr 107 0 [.tmp 2]∧Zr 108 0 [.tmp 1]∧Zr 109 0 [.tmp 4]∧Zr 110 0 [.tmp 3]∧Zr 111 0 [.tmp 4]∧Zr 112 0 [.tmp 1]:=⟨Zj func78 rfl rfl,Zj func79 rfl rfl,Zj func80 rfl rfl,Zj func98 rfl rfl,Zj func99 rfl rfl,Zj func100 rfl rfl,Zj func107 rfl rfl,Zj func108 rfl rfl,Zj func109 rfl rfl,Zj func110 rfl rfl,Zj func111 rfl rfl,Zj func112 rfl rfl⟩
@[go_sem]theorem ZDA:Zr 113 0 [.tmp 3]∧Zr 114 0 [.tmp 4]∧Zr 115 0 [.tmp 6]∧Zr 116 0 [.tmp 2]∧Zr 117 0 [.tmp 2]∧Zr 118 1 [.tmp 2]∧Zr 119 0 [.tmp 3]∧Zr 120 5 [.tmp 2]∧Zr 121 5 [.tmp 2]∧Zr 122 5 [.tmp 2]∧Zr 123 5 [.tmp 2]∧Zr 124 0 [.tmp 4]:=⟨Zj func113 rfl rfl,Zj func114 rfl rfl,Zj func115 rfl rfl,Zj func116 rfl rfl,Zj func117 rfl rfl,Zj func118 rfl rfl,Zj func119 rfl rfl,Zj func120 rfl rfl,Zj func121 rfl rfl,Zj func122 rfl rfl,Zj func123 rfl rfl,Zj func124 rfl rfl⟩
@[go_sem]theorem ZDF:Zr 125 0 [.tmp 4]∧Zr 126 0 [.tmp 4]∧Zr 127 0 [.tmp 4]∧Zr 128 0 [.tmp 3]∧Zr 130 0 [.tmp 4]∧Zr 131 0 [.tmp 3]∧Zr 132 0 [.tmp 3]∧Zr 133 0 [.tmp 4,.tmp 5,.tmp 6]∧Zr 134 0 [.tmp 8]∧Zr 135 0 [.tmp 4]∧Zr 136 0 [.tmp 4]∧Zr 137 5 [.tmp 6]:=⟨Zj func125 rfl rfl,Zj func126 rfl rfl,Zj func127 rfl rfl,Zj func128 rfl rfl,Zj func130 rfl rfl,Zj func131 rfl rfl,Zj func132 rfl rfl,Zj func133 rfl rfl,Zj func134 rfl rfl,Zj func135 rfl rfl,Zj func136 rfl rfl,Zj func137 rfl rfl⟩
@[go_sem]theorem ZDE:Zr 138 5 []∧Zr 139 0 [.cell 4 33]∧Zr 140 5 []∧Zr 142 5 []∧Zr 143 5 []∧Zr 180 0 [.tmp 4]∧Zr 186 0 [.tmp 6]∧Zr 187 0 [.tmp 2]∧Zr 188 0 [.tmp 1]∧Zr 189 0 [.tmp 2]∧Zr 190 0 [.tmp 1]∧Zr 191 0 [.tmp 6]:=⟨Zj func138 rfl rfl,Zj func139 rfl rfl,Zj func140 rfl rfl,Zj func142 rfl rfl,Zj func143 rfl rfl,Zj func180 rfl rfl,Zj func186 rfl rfl,Zj func187 rfl rfl,Zj func188 rfl rfl,Zj func189 rfl rfl,Zj func190 rfl rfl,Zj func191 rfl rfl⟩
@[go_sem]theorem ZDx:Zr 192 0 [.tmp 2]∧Zr 193 0 [.tmp 1]∧Zr 194 0 [.tmp 3]∧Zr 195 0 [.tmp 2]∧Zr 196 0 [.tmp 2]∧Zr 197 0 [.tmp 1]∧Zr 198 0 [.tmp 3]∧Zr 199 0 [.tmp 2]∧Zr 200 0 [.tmp 4]∧Zr 201 0 [.tmp 5]∧Zr 202 0 [.tmp 4]∧Zr 203 0 [.tmp 4]:=⟨Zj func192 rfl rfl,Zj func193 rfl rfl,Zj func194 rfl rfl,Zj func195 rfl rfl,Zj func196 rfl rfl,Zj func197 rfl rfl,Zj func198 rfl rfl,Zj func199 rfl rfl,Zj func200 rfl rfl,Zj func201 rfl rfl,Zj func202 rfl rfl,Zj func203 rfl rfl⟩
@[go_sem]theorem ZDy:Zr 204 5 [.tmp 4]∧Zr 205 0 [.tmp 3]∧Zr 206 0 [.tmp 2]∧Zr 207 5 []∧Zr 208 0 [.tmp 4]∧Zr 209 5 [.tmp 2]∧Zr 210 0 [.tmp 4]∧Zr 211 0 [.tmp 4]∧Zr 212 5 [.tmp 4]∧Zr 213 0 [.tmp 3]∧Zr 214 5 []∧Zr 215 0 [.cell 4 33]:=⟨Zj func204 rfl rfl,Zj func205 rfl rfl,Zj func206 rfl rfl,Zj func207 rfl rfl,Zj func208 rfl rfl,Zj func209 rfl rfl,Zj func210 rfl rfl,Zj func211 rfl rfl,Zj func212 rfl rfl,Zj func213 rfl rfl,Zj func214 rfl rfl,Zj func215 rfl rfl⟩
@[go_sem]theorem ZDt:Zr 216 0 [.tmp 4]∧Zr 217 0 [.tmp 4]∧Zr 218 0 [.tmp 4]∧Zr 219 0 [.tmp 4]∧Zr 220 0 [.tmp 4]∧Zr 221 5 [.tmp 6]∧Zr 222 0 [.tmp 4]∧Zr 223 0 [.tmp 4]∧Zr 224 5 [.tmp 6]∧Zr 232 0 [.tmp 3]∧Zr 233 0 [.tmp 3]∧Zr 234 0 [.tmp 4]:=⟨Zj func216 rfl rfl,Zj func217 rfl rfl,Zj func218 rfl rfl,Zj func219 rfl rfl,Zj func220 rfl rfl,Zj func221 rfl rfl,Zj func222 rfl rfl,Zj func223 rfl rfl,Zj func224 rfl rfl,Zj func232 rfl rfl,Zj func233 rfl rfl,Zj func234 rfl rfl⟩
@[go_sem]theorem ZDC:Zr 235 0 [.cell 2 33]∧Zr 236 0 [.cell 2 33]∧Zr 237 1 [.tmp 2]∧Zr 238 0 [.cell 2 33]∧Zr 239 0 [.cell 2 33]∧Zr 240 0 [.cell 2 33]∧Zr 241 5 []∧Zr 244 5 []∧Zr 246 5 []∧Zr 251 0 [.tmp 4]∧Zr 257 0 [.tmp 2]∧Zr 277 0 [.cell 2 33]:=⟨Zj func235 rfl rfl,Zj func236 rfl rfl,Zj func237 rfl rfl,Zj func238 rfl rfl,Zj func239 rfl rfl,Zj func240 rfl rfl,Zj func241 rfl rfl,Zj func244 rfl rfl,Zj func246 rfl rfl,Zj func251 rfl rfl,Zj func257 rfl rfl,Zj func277 rfl rfl⟩
@[go_sem]theorem ZDD:Zr 280 0 [.tmp 2]∧Zr 283 0 [.tmp 2]∧Zr 284 0 [.tmp 3]∧Zr 285 0 [.tmp 6]∧Zr 286 0 [.tmp 5]∧Zr 287 0 [.tmp 3]∧Zr 288 0 [.tmp 3]∧Zr 289 0 [.tmp 4]∧Zr 290 0 [.tmp 3]∧Zr 291 0 [.tmp 4]∧Zr 292 0 [.tmp 3]∧Zr 293 0 [.tmp 3]:=⟨Zj func280 rfl rfl,Zj func283 rfl rfl,Zj func284 rfl rfl,Zj func285 rfl rfl,Zj func286 rfl rfl,Zj func287 rfl rfl,Zj func288 rfl rfl,Zj func289 rfl rfl,Zj func290 rfl rfl,Zj func291 rfl rfl,Zj func292 rfl rfl,Zj func293 rfl rfl⟩
@[go_sem]theorem ZDq:Zr 294 0 [.tmp 3]∧Zr 295 0 [.cell 2 33]∧Zr 296 0 [.tmp 2]∧Zr 297 0 [.cell 4 33]∧Zr 298 0 [.cell 2 33]∧Zr 299 0 [.cell 4 33]∧Zr 300 0 [.tmp 6]∧Zr 301 0 [.tmp 2]∧Zr 302 0 [.tmp 2]∧Zr 303 0 [.tmp 3]∧Zr 304 0 [.tmp 2]∧Zr 305 0 [.tmp 3]:=⟨Zj func294 rfl rfl,Zj func295 rfl rfl,Zj func296 rfl rfl,Zj func297 rfl rfl,Zj func298 rfl rfl,Zj func299 rfl rfl,Zj func300 rfl rfl,Zj func301 rfl rfl,Zj func302 rfl rfl,Zj func303 rfl rfl,Zj func304 rfl rfl,Zj func305 rfl rfl⟩
@[go_sem]theorem ZDB:Zr 310 0 [.tmp 2]∧Zr 311 0 [.cell 2 33]∧Zr 313 0 [.tmp 2]∧Zr 316 0 [.cell 2 33,.tmp 3]∧Zr 330 0 [.tmp 2]∧Zr 335 0 [.tmp 2]∧Zr 337 0 [.tmp 2]∧Zr 338 0 [.cell 2 33]∧Zr 339 0 [.cell 2 33]∧Zr 344 0 [.tmp 2]∧Zr 348 0 [.cell 12 33]∧Zr 362 0 [.cell 2 340]:=⟨Zj func310 rfl rfl,Zj func311 rfl rfl,Zj func313 rfl rfl,Zj func316 rfl rfl,Zj func330 rfl rfl,Zj func335 rfl rfl,Zj func337 rfl rfl,Zj func338 rfl rfl,Zj func339 rfl rfl,Zj func344 rfl rfl,Zj func348 rfl rfl,Zj func362 rfl rfl⟩
@[go_sem]theorem ZDp:Zr 363 0 [.tmp 4]∧Zr 369 0 [.cell 12 33]∧Zr 371 0 [.cell 2 340]∧Zr 372 0 [.tmp 4]∧Zr 378 0 [.tmp 4]∧Zr 379 0 [.tmp 2]∧Zr 384 0 [.tmp 2]∧Zr 385 0 [.tmp 4]∧Zr 391 0 [.tmp 2]∧Zr 398 0 [.tmp 2]:=⟨Zj func363 rfl rfl,Zj func369 rfl rfl,Zj func371 rfl rfl,Zj func372 rfl rfl,Zj func378 rfl rfl,Zj func379 rfl rfl,Zj func384 rfl rfl,Zj func385 rfl rfl,Zj func391 rfl rfl,Zj func398 rfl rfl⟩
end Go.Ab
namespace Go.Ab
open Go Go.Proofs Go.Proofs.Tryz
attribute [go_sem] ZDg Zwh Zrx Ztr Zr8 ZCf ZBG ZAX ZCZ ZCo ZCI ZBM Zpp ZoT ZmZ Zk3 ZAr ZAQ Zxi Zwz ZBc ZuL ZyO
attribute [go_sem] Z8 ZP XP ZcK Zmv Znq isQ Zq6 alo fill J3 Zle Go.Ab.alloc cellsOf single singles Zaz val ZgM part Q3 ZI ZE Z2 Xm pur Zdy Zho ZbK J7 Zch Zf3 lv lvR evs Wi Wt W4 Zy ZH Zs Z1 ZL Yd Zcm ZeX Wa Z4 Zhz ZnC Zin Zon ZmV ZeT Jl Wu ZdW aUn pick Zyt ZfU Zeg Zaq splice Zln Zma Zlk Zvl Qx ZxK Zlc Zvs Zsd ZrJ Zfg Zb8 ZlG ZxQ Zax locs Zg Zk ZA Qv Zjl Zj4 Yx Yl Yp XW ZuV Zw9 ZpE Zno Zz XN JW Zlo QS Zfn eqV XE Zhv unwind Zeh ZbN QR frz restr Zcn tk? Zwd Zl6 Zd2 Zra Zwv Zpn Zun ZpD ZeH Zcv Zni Zdb ZkZ ZbZ ZiX ZiI Uh QO ZvO low ZhU evo Zl3 Zev Xv Zjb Ze7 Vd Y1 cut Ys YA ZN QC List.any_cons Ss SX ZfG Zeo Zwt Zli ZzZ Zf2 Jn Zt8 ZiM Zis Zkd Ztt orV Zz4 Zpr ZcE Zpx ZdI isF isT Zp5 ZzO Zm7 ZsP Zvu tidy ZpJ JA Zao ZgG Zgn Qs Zdc Int.ofNat_eq_natCast PE
@[go_sem]theorem ZzG{el:Option TypeId}{wq:Bool}{h:Za}{z b l n:Nat}{ys:List (List AV)}:Jf el wq h z b ys (.own l n)=Xv wq h z b (.own l n) ys:=rfl
@[go_sem]theorem Zyp{el:Option TypeId}{wq:Bool}{h:Za}{z b:Nat}{ys:List (List AV)}:Jf el wq h z b ys .nils=Xv wq h z b .nils ys:=rfl
@[go_sem]theorem ZzX{el:Option TypeId}{wq:Bool}{h:Za}{z b:Nat}{rs ys:List (List AV)}:Jf el wq h z b ys (.lit rs)=Xv wq h z b (.lit rs) ys:=rfl
@[go_sem]theorem ZB6{t:TypeId}{r:Option (AV×Za)}:ZiT false t r=r:=rfl
@[go_sem]theorem ZCB{nl:FuncId→Bool×Nat}{F:Tk→Res}{h:Za}{args caps:List AV}{g:FuncId}:ZU nl F h args (.fn g caps)=Wi (nl g).2 F g h (args++caps) (Zdy (nl g).1 h (args++caps)):=rfl
attribute [go_sem] Zhn ZlE Zjd ZcR Zdt
@[go_sem]theorem ZCc(t:Option TypeId):ZjD K.shut t=ZjD K t:=by cases t<;>rfl
@[go_sem]theorem ZAg(t:Option TypeId)(l:List AV):ZdF K.shut t l=ZdF K t l:=by cases t<;>rfl
def ZqL(p:Bool×Nat):Bool×Nat:=match p with
 |(a,2)=>(a,0)
 |p=>p
@[go_sem]theorem ZAO(f:FuncId):K.shut.nlA f=ZqL (nlA f):=by
 show((nlA f).1,if(nlA f).2=2 then 0 else(nlA f).2)=ZqL (nlA f);generalize nlA f=p;obtain⟨a,b⟩:=p;by_cases h:b=2
 ·subst h;rfl
 simp only[h,UA];unfold ZqL;split
 ·rename_i heq;simp only[Vp]at heq;exact absurd heq.2 h
 rfl
attribute [go_sem] ZqL Zea Zge Zex Zi2 Zes ZcZ Zi0 Zrt QJ ZoB Zsg ZBK
@[go_sem]theorem ZEO(a:List AV):ZjC 0 a=0:=rfl
@[go_sem]theorem ZEq(a:List AV):ZjC 1 a=1:=rfl
@[go_sem]theorem ZEv(a:List AV):ZjC 2 a=2:=rfl
@[go_sem]theorem ZCK(l n:Nat)(a:List AV):ZjC 4 (.own l n::a)=1:=rfl
@[go_sem]theorem ZCb(r:List (List AV))(a:List AV):ZjC 4 (.rows r::a)=0:=rfl
@[go_sem]theorem ZBt{el:Option TypeId}{wq:Bool}{h:Za}{z b l n a m:Nat}{ys:List (List AV)}:Jf el wq h z b ys (.vw l n a m)=Xv wq h z b (.vw l n a m) ys:=rfl
attribute [go_sem] nlA post
theorem Zps{dy:List (Nat×Nat)}{i:Nat}{fr:Fr}{h h':Za}{T:List Nat}(e:QC dy i fr T=true):QC dy i fr (chg h h' T)=true:=by
 have sub:∀(T:List Nat) (l:Nat),l∈chg h h' T→l∈T:=fun T l=>by
  induction T with
  |nil=>simp[chg]
  |cons x r ih =>
   simp only[chg];split
   ·exact fun hx=>VD _ (ih hx)
   intro hx;rcases Vn.1 hx with rfl|hx
   ·simp
   exact VD _ (ih hx)
 induction dy with
 |nil=>rfl
 |cons a r ih =>
  obtain⟨j,s⟩:=a;simp only[QC,VA]at e ⊢;refine⟨?_,ih e.2⟩;have e1:=e.1;by_cases hj:j=i
  ·simp only[hj,V7,Sq,List.any_eq_false,UP]at e1 ⊢;exact fun l hl hx=>e1 l hl (sub T l hx)
  simp only[hj,UA]
@[go_sem]theorem Zxo{dy:List (Nat×Nat)}{fr:Fr}:YN dy fr []=true:=rfl
@[go_sem]theorem Zxz{dy:List (Nat×Nat)}{fr:Fr}{i:Nat}{h h':Za}{T:List Nat}{r:List (Nat×List Nat)}:YN dy fr ((i,chg h h' T)::r)=((QC dy i fr T||QC dy i fr (chg h h' T))&&YN dy fr r):=by
 simp only[YN];cases hc:QC dy i fr T with
 |false=>simp
 |true=>simp[Zps hc]
@[go_sem]theorem ZyD{h:Za}{r:Option (AV×Za)}{v:AV}:ZaX h r (some v)=some (v,h):=rfl
@[go_sem]theorem Zxx{q:Bool}{h:Za}{ev:Operand→AV}{n z b:Nat}{ps:List (Nat×Operand)}:ZaX h (Zbc q h ev n ps (some (z,b))) none=ZiL q n z h (Ji h ev z 0 ps):=rfl
attribute [go_sem] ZiL Ji
@[go_sem]theorem ZCa(n:Nat):Zi n []=true:=rfl
@[go_sem]theorem ZBd(n l:Nat)(r:List Nat):(Zi n (l::r)=true)=(l<n∧Zi n r=true):=by simp[Zi]
@[go_sem]theorem ZCe{F:Tk→Res}{f k n:Nat}{ks:List It}{fr:Fr}{h:Za}{l:List Nat}:ZaW F f k ks n fr h (some l)=if k≤n∧(Zi n (Qv (restr fr l))=true∧Zi n (Zk (h.take n))=true)then F (.run f k ks (restr fr l) (h.take n))else F (.run f k ks (restr fr l) h):=by simp[ZaW]
@[go_sem]theorem ZzM{F:Tk→Res}{f k n:Nat}{ks:List It}{fr:Fr}{h:Za}{c:Code}{live:List Nat×List Nat}:ZfS F f k ks c live n (some (fr,h))=if k≤n∧(Zi n (Qv fr)=true∧Zi n (Zk (h.take n))=true)then F (.run f k (.code c::.lp c (some live) n::ks) fr (h.take n))else F (.run f k (.code c::.lp c (some live) n::ks) fr h):=by simp[ZfS]
attribute [go_sem] Pj Array.size_empty VP VZ Ug VI VC Vu Vi Vv Vl Vt VJ List.getElem?_nil VU Up Sp UH Pt Ui List.drop_succ_cons Pd SY Sz Vq List.replicate_zero Pb List.any_nil VN U1 U6 UC Pm UF SI Ps VW UM Pc V6 V7 UA ite_true ite_false cond_true cond_false decide_true decide_false VK PQ PD PW and_false false_and Va AV.bool.injEq Vw
@[go_sem]theorem ZEV:K.nlA=nlA∧K.shut.P=prog∧K.post=post:=⟨rfl,rfl,rfl⟩
end Go.Ab
