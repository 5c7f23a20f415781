/- FnExactEngineAnswers: for every input the law returns true and changes nothing that was there. Part 6 of 9. -/
import Derived.Test.YtfkokkokjgjkgaaGreatDoorNC4
set_option synthInstance.maxSize 20000
set_option synthInstance.maxHeartbeats 2000000
set_option linter.unusedVariables false
set_option linter.unusedSimpArgs false
set_option linter.unnecessarySimpa false
set_option linter.unusedSectionVars false
set_option maxRecDepth 1000000
namespace Go.Proofs.YtfkokkokjgjkgaaGreatDoor
open Go.IntKind (i64)
namespace R
open Go.Shelf
def yH:Go.Shelf.Ren:=⟨fun | 156=>210 | 165=>251 | 166=>252 | 169=>253 | 240=>289 | 241=>290 | 276=>312 | 277=>313 | n=>n,fun | 31=>171 | 9=>9 | 3=>3 | 4=>4 | 0=>0 | 20=>20 | 72=>293 | 76=>206 | 70=>291 | 37=>269 | 75=>205 | 127=>329 | 164=>357 | 5=>5 | 80=>295 | n=>n,fun | n=>n⟩
theorem TH:Go.Proofs.Lays.n156 Tryz.prog yH:= {
 mixed:=by kernel_rfl
 f156:=Tryz.func210.trans (congrArg some (by kernel_rfl))
 f165:=Tryz.func251.trans (congrArg some (by kernel_rfl))
 f166:=Tryz.func252.trans (congrArg some (by kernel_rfl))
 f169:=Tryz.func253.trans (congrArg some (by kernel_rfl))
 f240:=Tryz.func289.trans (congrArg some (by kernel_rfl))
 f241:=Tryz.func290.trans (congrArg some (by kernel_rfl))
 f276:=Tryz.func312.trans (congrArg some (by kernel_rfl))
 f277:=Tryz.func313.trans (congrArg some (by kernel_rfl))
 t0:=Tryz.underlying0
 a0:=Tryz.isAgg0
 z0:=Tryz.sizeOf0
 v0:=Tryz.zeroValue0
 t3:=Tryz.underlying3
 a3:=Tryz.isAgg3
 z3:=Tryz.sizeOf3
 v3:=Tryz.zeroValue3
 t4:=Tryz.underlying4
 a4:=Tryz.isAgg4
 z4:=Tryz.sizeOf4
 v4:=Tryz.zeroValue4
 t9:=Tryz.underlying9
 a9:=Tryz.isAgg9
 z9:=Tryz.sizeOf9
 v9:=Tryz.zeroValue9
 t20:=Tryz.underlying20
 a20:=Tryz.isAgg20
 z20:=Tryz.sizeOf20
 v20:=Tryz.zeroValue20
 t31:=Tryz.underlying171
 a31:=Tryz.isAgg171
 z31:=Tryz.sizeOf171
 v31:=Tryz.zeroValue171
 t37:=Tryz.underlying269
 a37:=Tryz.isAgg269
 z37:=Tryz.sizeOf269
 v37:=Tryz.zeroValue269
 t70:=Tryz.underlying291
 a70:=Tryz.isAgg291
 z70:=Tryz.sizeOf291
 v70:=Tryz.zeroValue291
 t72:=Tryz.underlying293
 a72:=Tryz.isAgg293
 z72:=Tryz.sizeOf293
 v72:=Tryz.zeroValue293
 t75:=Tryz.underlying205
 a75:=Tryz.isAgg205
 z75:=Tryz.sizeOf205
 v75:=Tryz.zeroValue205
 t76:=Tryz.underlying206
 a76:=Tryz.isAgg206
 z76:=Tryz.sizeOf206
 v76:=Tryz.zeroValue206
 t127:=Tryz.underlying329
 a127:=Tryz.isAgg329
 z127:=Tryz.sizeOf329
 v127:=Tryz.zeroValue329
 t164:=Tryz.underlying357
 a164:=Tryz.isAgg357
 z164:=Tryz.sizeOf357
 v164:=Tryz.zeroValue357 }
def Hg:Go.Shelf.Ren:=⟨fun | 171=>163 | 243=>207 | 246=>249 | 283=>285 | 284=>286 | 285=>287 | 286=>288 | 129=>267 | 317=>308 | 318=>309 | 319=>310 | 320=>311 | 337=>315 | 338=>316 | n=>n,fun | 3=>3 | 9=>9 | 2=>2 | 4=>4 | 171=>325 | 0=>0 | 53=>309 | 37=>269 | 5=>5 | 173=>327 | 212=>355 | 51=>307 | 20=>20 | 213=>356 | 46=>263 | 232=>363 | 233=>364 | n=>n,fun | 17=>5 | 18=>6 | 19=>7 | n=>n⟩
theorem Lg:Go.Proofs.LaysM.n171 Tryz.prog Hg:= {
 mixed:=by kernel_rfl
 f129:=Tryz.func267.trans (congrArg some (by kernel_rfl))
 f171:=Tryz.func163.trans (congrArg some (by kernel_rfl))
 f243:=Tryz.func207.trans (congrArg some (by kernel_rfl))
 f246:=Tryz.func249.trans (congrArg some (by kernel_rfl))
 f283:=Tryz.func285.trans (congrArg some (by kernel_rfl))
 f284:=Tryz.func286.trans (congrArg some (by kernel_rfl))
 f285:=Tryz.func287.trans (congrArg some (by kernel_rfl))
 f286:=Tryz.func288.trans (congrArg some (by kernel_rfl))
 f317:=Tryz.func308.trans (congrArg some (by kernel_rfl))
 f318:=Tryz.func309.trans (congrArg some (by kernel_rfl))
 f319:=Tryz.func310.trans (congrArg some (by kernel_rfl))
 f320:=Tryz.func311.trans (congrArg some (by kernel_rfl))
 f337:=Tryz.func315.trans (congrArg some (by kernel_rfl))
 f338:=Tryz.func316.trans (congrArg some (by kernel_rfl))
 t0:=Tryz.underlying0
 a0:=Tryz.isAgg0
 z0:=Tryz.sizeOf0
 v0:=Tryz.zeroValue0
 t2:=Tryz.underlying2
 a2:=Tryz.isAgg2
 z2:=Tryz.sizeOf2
 v2:=Tryz.zeroValue2
 t3:=Tryz.underlying3
 a3:=Tryz.isAgg3
 z3:=Tryz.sizeOf3
 v3:=Tryz.zeroValue3
 t4:=Tryz.underlying4
 a4:=Tryz.isAgg4
 z4:=Tryz.sizeOf4
 v4:=Tryz.zeroValue4
 t5:=Tryz.underlying5
 a5:=Tryz.isAgg5
 z5:=Tryz.sizeOf5
 v5:=Tryz.zeroValue5
 t9:=Tryz.underlying9
 a9:=Tryz.isAgg9
 z9:=Tryz.sizeOf9
 v9:=Tryz.zeroValue9
 t20:=Tryz.underlying20
 a20:=Tryz.isAgg20
 z20:=Tryz.sizeOf20
 v20:=Tryz.zeroValue20
 t37:=Tryz.underlying269
 a37:=Tryz.isAgg269
 z37:=Tryz.sizeOf269
 v37:=Tryz.zeroValue269
 t46:=Tryz.underlying263
 a46:=Tryz.isAgg263
 z46:=Tryz.sizeOf263
 v46:=Tryz.zeroValue263
 t51:=Tryz.underlying307
 a51:=Tryz.isAgg307
 z51:=Tryz.sizeOf307
 v51:=Tryz.zeroValue307
 t53:=Tryz.underlying309
 a53:=Tryz.isAgg309
 z53:=Tryz.sizeOf309
 v53:=Tryz.zeroValue309
 t171:=Tryz.underlying325
 a171:=Tryz.isAgg325
 z171:=Tryz.sizeOf325
 v171:=Tryz.zeroValue325
 t173:=Tryz.underlying327
 a173:=Tryz.isAgg327
 z173:=Tryz.sizeOf327
 v173:=Tryz.zeroValue327
 t212:=Tryz.underlying355
 a212:=Tryz.isAgg355
 z212:=Tryz.sizeOf355
 v212:=Tryz.zeroValue355
 t213:=Tryz.underlying356
 a213:=Tryz.isAgg356
 z213:=Tryz.sizeOf356
 t232:=Tryz.underlying363
 a232:=Tryz.isAgg363
 z232:=Tryz.sizeOf363
 v232:=Tryz.zeroValue363
 t233:=Tryz.underlying364
 a233:=Tryz.isAgg364
 z233:=Tryz.sizeOf364
 v233:=Tryz.zeroValue364
 g17:=by kernel_rfl
 g18:=by kernel_rfl
 g19:=by kernel_rfl
 i0:=by kernel_rfl
 i2:=by kernel_rfl
 i3:=by kernel_rfl
 i4:=by kernel_rfl
 i5:=by kernel_rfl
 i9:=by kernel_rfl
 i20:=by kernel_rfl
 i37:=by kernel_rfl
 i46:=by kernel_rfl
 i51:=by kernel_rfl
 i53:=by kernel_rfl
 i171:=by kernel_rfl
 i173:=by kernel_rfl
 i212:=by kernel_rfl
 i232:=by kernel_rfl
 i233:=by kernel_rfl
 m17:=by kernel_rfl
 m18:=by kernel_rfl
 m19:=by kernel_rfl }
def EO:Go.Shelf.Ren:=⟨fun | 146=>126 | 221=>161 | 268=>202 | 138=>203 | 143=>204 | 195=>240 | 197=>241 | 218=>242 | 219=>243 | 260=>278 | 217=>125 | 225=>279 | 224=>280 | 267=>281 | 266=>160 | 314=>305 | n=>n,fun | 9=>9 | 31=>171 | 3=>3 | 4=>4 | 0=>0 | 105=>282 | 21=>21 | 5=>5 | 46=>263 | 119=>344 | 139=>347 | 138=>346 | 146=>330 | 51=>307 | n=>n,fun | 1=>0 | 3=>3 | 4=>4 | n=>n⟩
theorem PV:Go.Proofs.Lays.n146 Tryz.prog EO:= {
 mixed:=by kernel_rfl
 f138:=Tryz.func203.trans (congrArg some (by kernel_rfl))
 f143:=Tryz.func204.trans (congrArg some (by kernel_rfl))
 f146:=Tryz.func126.trans (congrArg some (by kernel_rfl))
 f195:=Tryz.func240.trans (congrArg some (by kernel_rfl))
 f197:=Tryz.func241.trans (congrArg some (by kernel_rfl))
 f217:=Tryz.func125.trans (congrArg some (by kernel_rfl))
 f218:=Tryz.func242.trans (congrArg some (by kernel_rfl))
 f219:=Tryz.func243.trans (congrArg some (by kernel_rfl))
 f221:=Tryz.func161.trans (congrArg some (by kernel_rfl))
 f224:=Tryz.func280.trans (congrArg some (by kernel_rfl))
 f225:=Tryz.func279.trans (congrArg some (by kernel_rfl))
 f260:=Tryz.func278.trans (congrArg some (by kernel_rfl))
 f266:=Tryz.func160.trans (congrArg some (by kernel_rfl))
 f267:=Tryz.func281.trans (congrArg some (by kernel_rfl))
 f268:=Tryz.func202.trans (congrArg some (by kernel_rfl))
 f314:=Tryz.func305.trans (congrArg some (by kernel_rfl))
 t0:=Tryz.underlying0
 a0:=Tryz.isAgg0
 z0:=Tryz.sizeOf0
 v0:=Tryz.zeroValue0
 t3:=Tryz.underlying3
 a3:=Tryz.isAgg3
 z3:=Tryz.sizeOf3
 v3:=Tryz.zeroValue3
 t4:=Tryz.underlying4
 a4:=Tryz.isAgg4
 z4:=Tryz.sizeOf4
 v4:=Tryz.zeroValue4
 t5:=Tryz.underlying5
 a5:=Tryz.isAgg5
 z5:=Tryz.sizeOf5
 v5:=Tryz.zeroValue5
 t9:=Tryz.underlying9
 a9:=Tryz.isAgg9
 z9:=Tryz.sizeOf9
 v9:=Tryz.zeroValue9
 t21:=Tryz.underlying21
 a21:=Tryz.isAgg21
 z21:=Tryz.sizeOf21
 v21:=Tryz.zeroValue21
 t31:=Tryz.underlying171
 a31:=Tryz.isAgg171
 z31:=Tryz.sizeOf171
 v31:=Tryz.zeroValue171
 t46:=Tryz.underlying263
 a46:=Tryz.isAgg263
 z46:=Tryz.sizeOf263
 v46:=Tryz.zeroValue263
 t51:=Tryz.underlying307
 a51:=Tryz.isAgg307
 z51:=Tryz.sizeOf307
 v51:=Tryz.zeroValue307
 t105:=Tryz.underlying282
 a105:=Tryz.isAgg282
 z105:=Tryz.sizeOf282
 v105:=Tryz.zeroValue282
 t119:=Tryz.underlying344
 a119:=Tryz.isAgg344
 z119:=Tryz.sizeOf344
 t138:=Tryz.underlying346
 a138:=Tryz.isAgg346
 z138:=Tryz.sizeOf346
 v138:=Tryz.zeroValue346
 t139:=Tryz.underlying347
 a139:=Tryz.isAgg347
 z139:=Tryz.sizeOf347
 v139:=Tryz.zeroValue347
 t146:=Tryz.underlying330
 a146:=Tryz.isAgg330
 z146:=Tryz.sizeOf330
 v146:=Tryz.zeroValue330
 g1:=by kernel_rfl
 g3:=by kernel_rfl
 g4:=by kernel_rfl }
def Je:Go.Shelf.Ren:=⟨fun | 145=>208 | 220=>250 | 219=>243 | 217=>125 | 225=>279 | 224=>280 | 267=>281 | 266=>160 | 314=>305 | n=>n,fun | 9=>9 | 4=>4 | 59=>250 | 3=>3 | 5=>5 | 46=>263 | 146=>330 | 51=>307 | n=>n,fun | 1=>0 | n=>n⟩
theorem XX:Go.Proofs.Lays.n145 Tryz.prog Je:= {
 mixed:=by kernel_rfl
 f145:=Tryz.func208.trans (congrArg some (by kernel_rfl))
 f217:=Tryz.func125.trans (congrArg some (by kernel_rfl))
 f219:=Tryz.func243.trans (congrArg some (by kernel_rfl))
 f220:=Tryz.func250.trans (congrArg some (by kernel_rfl))
 f224:=Tryz.func280.trans (congrArg some (by kernel_rfl))
 f225:=Tryz.func279.trans (congrArg some (by kernel_rfl))
 f266:=Tryz.func160.trans (congrArg some (by kernel_rfl))
 f267:=Tryz.func281.trans (congrArg some (by kernel_rfl))
 f314:=Tryz.func305.trans (congrArg some (by kernel_rfl))
 t3:=Tryz.underlying3
 a3:=Tryz.isAgg3
 z3:=Tryz.sizeOf3
 v3:=Tryz.zeroValue3
 t4:=Tryz.underlying4
 a4:=Tryz.isAgg4
 z4:=Tryz.sizeOf4
 v4:=Tryz.zeroValue4
 t5:=Tryz.underlying5
 a5:=Tryz.isAgg5
 z5:=Tryz.sizeOf5
 v5:=Tryz.zeroValue5
 t9:=Tryz.underlying9
 a9:=Tryz.isAgg9
 z9:=Tryz.sizeOf9
 v9:=Tryz.zeroValue9
 t46:=Tryz.underlying263
 a46:=Tryz.isAgg263
 z46:=Tryz.sizeOf263
 v46:=Tryz.zeroValue263
 t51:=Tryz.underlying307
 a51:=Tryz.isAgg307
 z51:=Tryz.sizeOf307
 v51:=Tryz.zeroValue307
 t59:=Tryz.underlying250
 a59:=Tryz.isAgg250
 z59:=Tryz.sizeOf250
 v59:=Tryz.zeroValue250
 t146:=Tryz.underlying330
 a146:=Tryz.isAgg330
 z146:=Tryz.sizeOf330
 v146:=Tryz.zeroValue330
 g1:=by kernel_rfl }
def xz:Go.Shelf.Ren:=⟨fun | 137=>83 | 217=>125 | 266=>160 | n=>n,fun | 9=>9 | 5=>5 | 3=>3 | n=>n,fun | n=>n⟩
theorem EP:Go.Proofs.Lays.n137 Tryz.prog xz:= {
 mixed:=by kernel_rfl
 f137:=Tryz.func83.trans (congrArg some (by kernel_rfl))
 f217:=Tryz.func125.trans (congrArg some (by kernel_rfl))
 f266:=Tryz.func160.trans (congrArg some (by kernel_rfl))
 t3:=Tryz.underlying3
 a3:=Tryz.isAgg3
 z3:=Tryz.sizeOf3
 v3:=Tryz.zeroValue3
 t5:=Tryz.underlying5
 a5:=Tryz.isAgg5
 z5:=Tryz.sizeOf5
 v5:=Tryz.zeroValue5
 t9:=Tryz.underlying9
 a9:=Tryz.isAgg9
 z9:=Tryz.sizeOf9
 v9:=Tryz.zeroValue9 }
def Hh:Go.Shelf.Ren:=⟨fun | 172=>162 | 244=>205 | 245=>206 | 247=>244 | 279=>245 | 280=>246 | 281=>247 | 282=>248 | 287=>282 | 316=>283 | 171=>163 | 205=>284 | 321=>306 | 322=>307 | 243=>207 | 246=>249 | 283=>285 | 284=>286 | 285=>287 | 286=>288 | 129=>267 | 317=>308 | 318=>309 | 319=>310 | 320=>311 | 337=>315 | 338=>316 | n=>n,fun | 9=>9 | 3=>3 | 75=>205 | 76=>206 | 4=>4 | 5=>5 | 167=>284 | 37=>269 | 0=>0 | 85=>285 | 2=>2 | 168=>287 | 53=>309 | 175=>319 | 46=>263 | 210=>323 | 127=>329 | 145=>353 | 143=>351 | 21=>21 | 171=>325 | 173=>327 | 212=>355 | 51=>307 | 20=>20 | 213=>356 | 232=>363 | 233=>364 | 80=>295 | n=>n,fun | 15=>1 | 16=>2 | 17=>5 | 18=>6 | 19=>7 | n=>n⟩
theorem Lh:Go.Proofs.LaysC.n172 Tryz.prog Hh:= {
 mixed:=by kernel_rfl
 f129:=Tryz.func267.trans (congrArg some (by kernel_rfl))
 f171:=Tryz.func163.trans (congrArg some (by kernel_rfl))
 f172:=Tryz.func162.trans (congrArg some (by kernel_rfl))
 f205:=Tryz.func284.trans (congrArg some (by kernel_rfl))
 f243:=Tryz.func207.trans (congrArg some (by kernel_rfl))
 f244:=Tryz.func205.trans (congrArg some (by kernel_rfl))
 f245:=Tryz.func206.trans (congrArg some (by kernel_rfl))
 f246:=Tryz.func249.trans (congrArg some (by kernel_rfl))
 f247:=Tryz.func244.trans (congrArg some (by kernel_rfl))
 f279:=Tryz.func245.trans (congrArg some (by kernel_rfl))
 f280:=Tryz.func246.trans (congrArg some (by kernel_rfl))
 f281:=Tryz.func247.trans (congrArg some (by kernel_rfl))
 f282:=Tryz.func248.trans (congrArg some (by kernel_rfl))
 f283:=Tryz.func285.trans (congrArg some (by kernel_rfl))
 f284:=Tryz.func286.trans (congrArg some (by kernel_rfl))
 f285:=Tryz.func287.trans (congrArg some (by kernel_rfl))
 f286:=Tryz.func288.trans (congrArg some (by kernel_rfl))
 f287:=Tryz.func282.trans (congrArg some (by kernel_rfl))
 f316:=Tryz.func283.trans (congrArg some (by kernel_rfl))
 f317:=Tryz.func308.trans (congrArg some (by kernel_rfl))
 f318:=Tryz.func309.trans (congrArg some (by kernel_rfl))
 f319:=Tryz.func310.trans (congrArg some (by kernel_rfl))
 f320:=Tryz.func311.trans (congrArg some (by kernel_rfl))
 f321:=Tryz.func306.trans (congrArg some (by kernel_rfl))
 f322:=Tryz.func307.trans (congrArg some (by kernel_rfl))
 f337:=Tryz.func315.trans (congrArg some (by kernel_rfl))
 f338:=Tryz.func316.trans (congrArg some (by kernel_rfl))
 t0:=Tryz.underlying0
 a0:=Tryz.isAgg0
 z0:=Tryz.sizeOf0
 v0:=Tryz.zeroValue0
 t2:=Tryz.underlying2
 a2:=Tryz.isAgg2
 z2:=Tryz.sizeOf2
 v2:=Tryz.zeroValue2
 t3:=Tryz.underlying3
 a3:=Tryz.isAgg3
 z3:=Tryz.sizeOf3
 v3:=Tryz.zeroValue3
 t4:=Tryz.underlying4
 a4:=Tryz.isAgg4
 z4:=Tryz.sizeOf4
 v4:=Tryz.zeroValue4
 t5:=Tryz.underlying5
 a5:=Tryz.isAgg5
 z5:=Tryz.sizeOf5
 v5:=Tryz.zeroValue5
 t9:=Tryz.underlying9
 a9:=Tryz.isAgg9
 z9:=Tryz.sizeOf9
 v9:=Tryz.zeroValue9
 t20:=Tryz.underlying20
 a20:=Tryz.isAgg20
 z20:=Tryz.sizeOf20
 v20:=Tryz.zeroValue20
 t21:=Tryz.underlying21
 a21:=Tryz.isAgg21
 z21:=Tryz.sizeOf21
 v21:=Tryz.zeroValue21
 t37:=Tryz.underlying269
 a37:=Tryz.isAgg269
 z37:=Tryz.sizeOf269
 v37:=Tryz.zeroValue269
 t46:=Tryz.underlying263
 a46:=Tryz.isAgg263
 z46:=Tryz.sizeOf263
 v46:=Tryz.zeroValue263
 t51:=Tryz.underlying307
 a51:=Tryz.isAgg307
 z51:=Tryz.sizeOf307
 v51:=Tryz.zeroValue307
 t53:=Tryz.underlying309
 a53:=Tryz.isAgg309
 z53:=Tryz.sizeOf309
 v53:=Tryz.zeroValue309
 t75:=Tryz.underlying205
 a75:=Tryz.isAgg205
 z75:=Tryz.sizeOf205
 v75:=Tryz.zeroValue205
 t76:=Tryz.underlying206
 a76:=Tryz.isAgg206
 z76:=Tryz.sizeOf206
 v76:=Tryz.zeroValue206
 t85:=Tryz.underlying285
 a85:=Tryz.isAgg285
 z85:=Tryz.sizeOf285
 v85:=Tryz.zeroValue285
 t127:=Tryz.underlying329
 a127:=Tryz.isAgg329
 z127:=Tryz.sizeOf329
 v127:=Tryz.zeroValue329
 t143:=Tryz.underlying351
 a143:=Tryz.isAgg351
 z143:=Tryz.sizeOf351
 v143:=Tryz.zeroValue351
 t145:=Tryz.underlying353
 a145:=Tryz.isAgg353
 z145:=Tryz.sizeOf353
 v145:=Tryz.zeroValue353
 t167:=Tryz.underlying284
 a167:=Tryz.isAgg284
 z167:=Tryz.sizeOf284
 v167:=Tryz.zeroValue284
 t168:=Tryz.underlying287
 a168:=Tryz.isAgg287
 z168:=Tryz.sizeOf287
 v168:=Tryz.zeroValue287
 t171:=Tryz.underlying325
 a171:=Tryz.isAgg325
 z171:=Tryz.sizeOf325
 v171:=Tryz.zeroValue325
 t173:=Tryz.underlying327
 a173:=Tryz.isAgg327
 z173:=Tryz.sizeOf327
 v173:=Tryz.zeroValue327
 t175:=Tryz.underlying319
 a175:=Tryz.isAgg319
 z175:=Tryz.sizeOf319
 v175:=Tryz.zeroValue319
 t210:=Tryz.underlying323
 a210:=Tryz.isAgg323
 z210:=Tryz.sizeOf323
 v210:=Tryz.zeroValue323
 t212:=Tryz.underlying355
 a212:=Tryz.isAgg355
 z212:=Tryz.sizeOf355
 v212:=Tryz.zeroValue355
 t213:=Tryz.underlying356
 a213:=Tryz.isAgg356
 z213:=Tryz.sizeOf356
 t232:=Tryz.underlying363
 a232:=Tryz.isAgg363
 z232:=Tryz.sizeOf363
 v232:=Tryz.zeroValue363
 t233:=Tryz.underlying364
 a233:=Tryz.isAgg364
 z233:=Tryz.sizeOf364
 v233:=Tryz.zeroValue364
 g15:=by kernel_rfl
 g16:=by kernel_rfl
 g17:=by kernel_rfl
 g18:=by kernel_rfl
 g19:=by kernel_rfl
 t80:=Tryz.underlying295
 a80:=Tryz.isAgg295
 z80:=Tryz.sizeOf295
 v80:=Tryz.zeroValue295
 i0:=by kernel_rfl
 i2:=by kernel_rfl
 i3:=by kernel_rfl
 i4:=by kernel_rfl
 i5:=by kernel_rfl
 i9:=by kernel_rfl
 i20:=by kernel_rfl
 i21:=by kernel_rfl
 i37:=by kernel_rfl
 i46:=by kernel_rfl
 i51:=by kernel_rfl
 i53:=by kernel_rfl
 i75:=by kernel_rfl
 i76:=by kernel_rfl
 i80:=by kernel_rfl
 i85:=by kernel_rfl
 i127:=by kernel_rfl
 i143:=by kernel_rfl
 i145:=by kernel_rfl
 i167:=by kernel_rfl
 i168:=by kernel_rfl
 i171:=by kernel_rfl
 i173:=by kernel_rfl
 i175:=by kernel_rfl
 i210:=by kernel_rfl
 i212:=by kernel_rfl
 i232:=by kernel_rfl
 i233:=by kernel_rfl
 m15:=by kernel_rfl
 m16:=by kernel_rfl
 m17:=by kernel_rfl
 m18:=by kernel_rfl
 m19:=by kernel_rfl
 c0:=by kernel_rfl
 c2:=by kernel_rfl
 c3:=by kernel_rfl
 c4:=by kernel_rfl
 c5:=by kernel_rfl
 c9:=by kernel_rfl
 c20:=by kernel_rfl
 c21:=by kernel_rfl
 c37:=by kernel_rfl
 c46:=by kernel_rfl
 c51:=by kernel_rfl
 c53:=by kernel_rfl
 c75:=by kernel_rfl
 c76:=by kernel_rfl
 c80:=by kernel_rfl
 c85:=by kernel_rfl
 c127:=by kernel_rfl
 c143:=by kernel_rfl
 c145:=by kernel_rfl
 c167:=by kernel_rfl
 c168:=by kernel_rfl
 c171:=by kernel_rfl
 c173:=by kernel_rfl
 c175:=by kernel_rfl
 c210:=by kernel_rfl
 c212:=by kernel_rfl
 c213:=by kernel_rfl
 c232:=by kernel_rfl
 c233:=by kernel_rfl }
theorem PW:Go.Proofs.Builder.Extra Tryz.prog yH where
 sizeBuilder:=by kernel_rfl
 liesBuilder:=by kernel_rfl
 t5:=Tryz.underlying5
 a5:=Tryz.isAgg5
 z5:=Tryz.sizeOf5
 v5:=Tryz.zeroValue5
 infoByte:=by kernel_rfl
 cellsByte:=by kernel_rfl
 sizeByte:=by kernel_rfl
 neB5:=by decide
end R
namespace R
open Go.RowKit
open D
def FldAll (P:Program) (T:TypeId):Nat->List (Nat×Nat)->Prop
 | _,[] =>True
 | i,q::l=>TF P T i q.1 q.2/\FldAll P T (i+1) l
theorem FldAll.get {P:Program} {T:TypeId} : ∀ {l:List (Nat×Nat)} {i:Nat},FldAll P T i l-> ∀f q,l[f]? =some q->TF P T (i+f) q.1 q.2
 | [],_,_,f,q,h=>by simp at h
 | x::l,i,⟨h1,h2⟩,f,q,h=>by
  cases f with
  | zero=>simp at h;subst h;exact h1
  | succ f =>
   have:=FldAll.get h2 f q (by simpa using h)
   rwa [show i+1+f=i+(f+1) from by omega] at this
section
variable {P:Program} {T:TypeId}
theorem u7 {n b:Nat} {ty:Ty} {z:Value} {boo:Bool} {ik:Option (Option IntKind)} (h1:TI P T false 1) (h2:ty.size=1) (h3:TZ P T z 1 b) (h4:z.cells=(zeroCells ty).toArray) (h5:1<=b) (h6:boo=true->P.underlying T=some .bool) (h7: ∀k,ik=some k->P.underlying T=some (ikD k)):TDok P T ⟨false,1,none,ty,[],some b,none,boo,none,none,ik,false,none⟩:=
 ⟨h1,rfl,h2,fun E h=>by simp at h,fun f q h=>by simp at h,fun b' h=>by obtain rfl:=ad h;exact ⟨z,h3,h4,h5⟩,fun pl h=>by simp at h,h6,(fun ks h=>by cases h),(fun m h=>by cases h),h7,(fun h=>by cases h),fun e h=>by cases h⟩
theorem mW {E:TypeId} {t:Ty} (h1:TI P T false 1) (h2:P.underlying T=some (.slice E)) (h3:TZ P T (.slice none 0 0) 1 24):TDok P T ⟨false,1,some E,.sl E t,[],some 24,none,false,none,none,none,false,none⟩:=
 ⟨h1,rfl,rfl,fun E' h=>by obtain rfl:=ad h;exact h2,fun f q h=>by simp at h,fun b' h=>by obtain rfl:=ad h;exact ⟨_,h3,rfl,by decide⟩,fun pl h=>by simp at h,(fun h=>by cases h),(fun ks h=>by cases h),(fun m h=>by cases h),(fun k h=>by cases h),(fun h=>by cases h),fun e h=>by cases h⟩
theorem ku {n b:Nat} {ty:Ty} {fs pl:List (Nat×Nat)} {z:Value} {eq:Option (List (Option IntKind))} (h1:TI P T true n) (h2:ty.size=n) (h3:FldAll P T 0 fs) (h4:TZ P T z n b) (h5:z.cells=(zeroCells ty).toArray) (h6:1<=b) (h7:TB P T pl) (h8: ∀ks,eq=some ks-> ∀w,Curq ks fun xs ys r=>EqT P T (.agg xs.toArray) (.agg ys.toArray) r w):TDok P T ⟨true,n,none,ty,fs,some b,some pl,false,eq,none,none,false,none⟩:=
 ⟨h1,rfl,h2,fun E h=>by simp at h,fun f q h=>by have:=h3.get f q h;rwa [Nat.zero_add] at this,fun b' h=>by obtain rfl:=ad h;exact ⟨z,h4,h5,h6⟩,fun pl' h=>by obtain rfl:=ad h;exact h7,(fun h=>by cases h),h8,(fun m h=>by cases h),(fun k h=>by cases h),(fun h=>by cases h),fun e h=>by cases h⟩
theorem ER {ty:Ty} {b:Nat} (h1:TI P T false 1) (h2:ty.size=1) (h3:TZ P T .nilFunc 1 b):TDok P T ⟨false,1,none,ty,[],none,none,false,none,none,none,true,none⟩:=
 ⟨h1,rfl,h2,fun E h=>by simp at h,fun f q h=>by simp at h,(fun b' h=>by cases h),(fun pl h=>by cases h),(fun h=>by cases h),(fun ks h=>by cases h),(fun m' h=>by cases h),(fun k h=>by cases h),(fun _=>⟨b,h3⟩),fun e h=>by cases h⟩
theorem abG {m:MD} {ty:Ty} (h1:TI P T false 1) (h2:ty.size=1) (h3:MDok P T m):TDok P T ⟨false,1,none,ty,[],none,none,false,none,some m,none,false,none⟩:=
 ⟨h1,rfl,h2,fun E h=>by simp at h,fun f q h=>by simp at h,(fun b' h=>by cases h),(fun pl h=>by cases h),(fun h=>by cases h),(fun ks h=>by cases h),(fun m' h=>by obtain rfl:=ad h;exact h3),(fun k h=>by cases h),(fun h=>by cases h),fun e h=>by cases h⟩
theorem abH {e E:TypeId} {u:Ty} (h1:TI P T false 1) (h2:P.underlying T=some (.pointer e)) (h3:TZ P T (.pointer none) 1 8):TDok P T ⟨false,1,none,.fro (.tree e E u),[],some 8,none,false,none,none,none,false,some e⟩:=
 ⟨h1,rfl,rfl,fun E' h=>by simp at h,fun f q h=>by simp at h,fun b' h=>by obtain rfl:=ad h;exact ⟨_,h3,rfl,by decide⟩,fun pl h=>by simp at h,(fun h=>by cases h),(fun ks h=>by cases h),(fun m h=>by cases h),(fun k h=>by cases h),(fun h=>by cases h),fun e' h=>by obtain rfl:=ad h;exact h2⟩
end
end R
namespace D
open Go.RowKit
abbrev Yq1:Type:=(Int×Int×Int×Int)
abbrev Yq2:Type:=(Int×(List Bool)×(List (List Int)))
abbrev Yq3:Type:=(Int×((List Yq1))×Int)
abbrev Li:Type:=((List Int)×(List Yq1))
abbrev Yq4:Type:=(List Li)
abbrev Yq5:Type:=(Bool×Int×Int×Int×Int)
abbrev Yq6:Type:=((List Yq2)×(List Yq3))
abbrev Yq7:Type:=(List (Int×Int×Int))
abbrev Yq8:Type:=((Int×Bool)×Int×Int)
abbrev Yq9:Type:=(List (Int×Int))
abbrev RF:Type:=((List Int)×Int×Int×(List Int)×Bool)
abbrev Dq:Type:=(Out Int (Int×Int))
abbrev PX:Type:=(Out (List Int) ((List Int)×Int))
def tG (a:List Int) (b:Int):Option Int:=
 if decide (i64.wrap (b - (a.length:Int))<0) then (some (-1)) else (some (i64.wrap (b - (a.length:Int))))
def u9 (a:List Yq1) (b:Int):Option Int:=
 if decide (i64.wrap (b - (a.length:Int))<0) then (some (-1)) else (some (i64.wrap (b - (a.length:Int))))
def qF (a:(List Int)×(List Yq1)) (d:Int):Option Int:=
 (tG a.1 d).bind fun b=>if decide (b<0) then (some (-1)) else ((u9 a.2 b).bind fun c=>if decide (c<0) then (some (-1)) else (some c))
def kF (b:List Li) (a:Int×Int):Option Dq:=
 if decide (a.2<(b.length:Int)) then ((aG b a.2).bind fun c=>(qF (c.1,c.2) a.1).bind fun d=>if decide (d<0) then (some (.ret (-1))) else (some (.nxt (d,i64.wrap (a.2+1))))) else (some (.brk (a.1,a.2)))
def so (a:List Li) (b:Int):Option Int:=
 if decide (i64.wrap (b - (a.length:Int))<0) then (some (-1)) else (aJ (ak (kF a) aP (i64.wrap (b - (a.length:Int)),0)) (fun r=>some r) (fun c=>some c.1))
def nA (b:Int×Yq4) (c:Int):Option Int:=
 (so b.2 c).bind fun a=>if decide (a<0) then (some (-1)) else (some a)
def vc (a:List Bool) (b:Int):Option Int:=
 if decide (i64.wrap (b - (a.length:Int))<0) then (some (-1)) else (some (i64.wrap (b - (a.length:Int))))
def lZ (b:List (List Int)) (a:Int×Int):Option Dq:=
 if decide (a.2<(b.length:Int)) then ((aG b a.2).bind fun d=>(tG d a.1).bind fun c=>if decide (c<0) then (some (.ret (-1))) else (some (.nxt (c,i64.wrap (a.2+1))))) else (some (.brk (a.1,a.2)))
def vd (a:List (List Int)) (b:Int):Option Int:=
 if decide (i64.wrap (b - (a.length:Int))<0) then (some (-1)) else (aJ (ak (lZ a) aP (i64.wrap (b - (a.length:Int)),0)) (fun r=>some r) (fun c=>some c.1))
def kG (a:Int×(List Bool)×(List (List Int))) (d:Int):Option Int:=
 (vc a.2.1 d).bind fun b=>if decide (b<0) then (some (-1)) else ((vd a.2.2 b).bind fun c=>if decide (c<0) then (some (-1)) else (some c))
def fX (c:List Yq2) (a:Int×Int):Option Dq:=
 if decide (a.2<(c.length:Int)) then ((aG c a.2).bind fun b=>(kG (b.1,b.2.1,b.2.2) a.1).bind fun d=>if decide (d<0) then (some (.ret (-1))) else (some (.nxt (d,i64.wrap (a.2+1))))) else (some (.brk (a.1,a.2)))
def mX (a:List Yq2) (b:Int):Option Int:=
 if decide (i64.wrap (b - (a.length:Int))<0) then (some (-1)) else (aJ (ak (fX a) aP (i64.wrap (b - (a.length:Int)),0)) (fun r=>some r) (fun c=>some c.1))
def sp (a:List Yq1) (b:Int):Option Int:=
 if decide (i64.wrap (b - (a.length:Int))<0) then (some (-1)) else (some (i64.wrap (b - (a.length:Int))))
def tH (b:(List Yq1)) (c:Int):Option Int:=
 (sp b c).bind fun a=>if decide (a<0) then (some (-1)) else (some a)
def jD (b:Int×((List Yq1))×Int) (c:Int):Option Int:=
 (tH b.2.1 c).bind fun a=>if decide (a<0) then (some (-1)) else (some a)
def fl (c:List Yq3) (a:Int×Int):Option Dq:=
 if decide (a.2<(c.length:Int)) then ((aG c a.2).bind fun b=>(jD (b.1,b.2.1,b.2.2) a.1).bind fun d=>if decide (d<0) then (some (.ret (-1))) else (some (.nxt (d,i64.wrap (a.2+1))))) else (some (.brk (a.1,a.2)))
def lF (a:List Yq3) (b:Int):Option Int:=
 if decide (i64.wrap (b - (a.length:Int))<0) then (some (-1)) else (aJ (ak (fl a) aP (i64.wrap (b - (a.length:Int)),0)) (fun r=>some r) (fun c=>some c.1))
def l5 (a:(List Yq2)×(List Yq3)) (d:Int):Option Int:=
 (mX a.1 d).bind fun b=>if decide (b<0) then (some (-1)) else ((lF a.2 b).bind fun c=>if decide (c<0) then (some (-1)) else (some c))
def lG (a:List (Int×Int×Int)) (b:Int):Option Int:=
 if decide (i64.wrap (b - (a.length:Int))<0) then (some (-1)) else (some (i64.wrap (b - (a.length:Int))))
def oQ (a:(Int×Yq4)×Yq6×Yq7×ByteArray) (e:Int):Option Int:=
 (nA (a.1.1,a.1.2) e).bind fun c=>if decide (c<0) then (some (-1)) else ((l5 (a.2.1.1,a.2.1.2) c).bind fun d=>if decide (d<0) then (some (-1)) else ((lG a.2.2.1 d).bind fun b=>if decide (b<0) then (some (-1)) else (if decide (i64.wrap (b - (a.2.2.2.size:Int))<0) then (some (-1)) else (some (i64.wrap (b - (a.2.2.2.size:Int)))))))
def bV (a:Int) (b:Int) (c:Int):Option Bool:=
 if decide (a≥b) then (some (decide (a<=c))) else (some false)
def Dr (b:(List Int)×(List Yq1)) (a:Int×Int×Int×Int):Option Bool:=
 (bV a.1 1 99).bind fun c=>if c then ((bV a.2.1 0 (i64.wrap ((b.1.length:Int) - 1))).bind fun d=>if d then ((bV a.2.2.1 0 (i64.wrap ((b.1.length:Int) - 1))).bind fun e=>if e then ((bV a.2.2.2 0 2).bind fun f=>some f) else (some false)) else (some false)) else (some false)
def nX (b:(List Int)×(List Yq1)) (a:Int):Option (Out Bool Int):=
 if decide (a<(b.1.length:Int)) then ((aG b.1 a).bind fun c=>(bV c 0 2).bind fun d=>if d then (some (.nxt (i64.wrap (a+1)))) else (some (.ret false))) else (some (.brk a))
def j4 (b:(List Int)×(List Yq1)) (a:Int):Option (Out Bool Int):=
 if decide (a<(b.2.length:Int)) then ((aG b.2 a).bind fun c=>(Dr (b.1,b.2) (c.1,c.2.1,c.2.2.1,c.2.2.2)).bind fun d=>if d then (if decide (a>0) then ((aG b.2 (i64.wrap (a - 1))).bind fun e=>(aG b.2 a).bind fun f=>if decide (e.1≥f.1) then (some (.ret false)) else (some (.nxt (i64.wrap (a+1))))) else (some (.nxt (i64.wrap (a+1))))) else (some (.ret false))) else (some (.brk a))
def bC (a:(List Int)×(List Yq1)):Option Bool:=
 aJ (ak (nX a) aP 0) (fun r=>some r) (fun c=>aJ (ak (j4 a) aP 0) (fun r=>some r) (fun d=>(bV (a.1.length:Int) 1 5).bind fun b=>if b then (some (decide ((a.2.length:Int)<=12))) else (some false)))
def oR (b:List Int) (c:List Int) (a:Int):Option (Out Int Int):=
 if decide (a<(b.length:Int)) then (if decide (a<(c.length:Int)) then ((aG b a).bind fun d=>(aG c a).bind fun e=>if decide (d<e) then (some (.ret (-1))) else ((aG b a).bind fun f=>(aG c a).bind fun g=>if decide (f>g) then (some (.ret 1)) else (some (.nxt (i64.wrap (a+1)))))) else (some (.brk a))) else (some (.brk a))
def nY (a:List Int) (b:List Int):Option Int:=
 aJ (ak (oR a b) aP 0) (fun r=>some r) (fun c=>if decide ((a.length:Int)<(b.length:Int)) then (some (-1)) else (if decide ((a.length:Int)>(b.length:Int)) then (some 1) else (some 0)))
def eO (b:Int×Yq4) (a:Int):Option (Out Bool Int):=
 if decide (a<(b.2.length:Int)) then ((aG b.2 a).bind fun c=>(bC (c.1,c.2)).bind fun d=>if d then ((aG b.2 a).bind fun e=>(aG b.2 0).bind fun f=>(nY e.1 f.1).bind fun g=>if g !=0 then (some (.ret false)) else (some (.nxt (i64.wrap (a+1))))) else (some (.ret false))) else (some (.brk a))
def m_s_IsValidHistory (a:Int×Yq4):Option Bool:=
 aJ (ak (eO a) aP 0) (fun r=>some r) (fun d=>(bV (a.2.length:Int) 1 8).bind fun b=>if b then ((bV a.1 1 (i64.wrap ((i64.wrap (999 - (a.2.length:Int)))+1))).bind fun c=>some c) else (some false))
def mA (a:Int):Option Bool:=
 (bV a 0 8).bind fun b=>some b
def nZ (a:Int×Int×Int×Int):Option Int:=
 Option.bind ((if a.1==1 then (some (a.1==1)) else (some (a.1==2)):Option Bool)) (fun b=>if b then (if a.2.1 !=0 then (some (-1)) else (if a.2.2.1 !=0 then (some (-1)) else (if a.2.2.2 !=0 then (some (-1)) else (some 0)))) else (if a.1==3 then ((mA a.2.1).bind fun c=>if c then (if a.2.2.1 !=0 then (some (-1)) else (if a.2.2.2 !=0 then (some (-1)) else (some 0))) else (some (-1))) else (Option.bind ((if a.1==4 then (some (a.1==4)) else (some (a.1==5)):Option Bool)) (fun d=>if d then (if a.2.1 !=0 then (some (-1)) else (if a.2.2.1 !=0 then (some (-1)) else (if a.2.2.2 !=0 then (some (-1)) else (some 2)))) else (if a.1==6 then (if a.2.1 !=0 then (some (-1)) else (if a.2.2.1 !=0 then (some (-1)) else (if a.2.2.2 !=0 then (some (-1)) else (some 1)))) else (if a.1==7 then (if a.2.1 !=0 then (some (-1)) else ((bV a.2.2.2 1 3).bind fun e=>if e then ((bV a.2.2.1 0 a.2.2.2).bind fun f=>if f then (some 1) else (some (-1))) else (some (-1)))) else (some (-1))))))))
def qG (d:(List Yq1)) (a:Int×Int):Option (Out Bool (Int×Int)):=
 if decide (a.2<(d.length:Int)) then ((aG d a.2).bind fun b=>(nZ (b.1,b.2.1,b.2.2.1,b.2.2.2)).bind fun c=>if decide (c<0) then (some (.ret false)) else (if decide (c>a.1) then (some (.ret false)) else (some (.nxt (i64.wrap ((i64.wrap (a.1 - c))+1),i64.wrap (a.2+1)))))) else (some (.brk (a.1,a.2)))
def tI (a:(List Yq1)):Option Bool:=
 aJ (ak (qG a) aP (0,0)) (fun r=>some r) (fun b=>some (b.1==1))
def kH (a:(List Yq1)):Option Bool:=
 if decide ((a.length:Int)<=24) then ((tI a).bind fun b=>some b) else (some false)
def l6 (c:List Yq1) (a:Int×Int):Option Dq:=
 if decide (a.1>0) then ((aG c (i64.wrap (a.2 - 1))).bind fun b=>(nZ (b.1,b.2.1,b.2.2.1,b.2.2.2)).bind fun d=>some (.nxt (i64.wrap ((i64.wrap (a.1 - 1))+d),i64.wrap (a.2 - 1)))) else (some (.brk (a.1,a.2)))
def hZ (a:List Yq1):Option Int:=
 aJ (ak (l6 a) aP (1,(a.length:Int))) (fun r=>some r) (fun b=>some b.2)
def dQ:Nat->(List Yq1)->Option Int
 | 0,_=>none
 | n+1,p0l =>
  (aG p0l (i64.wrap ((p0l.length:Int) - 1))).bind fun a=>Option.bind ((if a.1==4 then (some (a.1==4)) else (some (a.1==5)):Option Bool)) (fun c=>if c then ((chk (And (0<=(i64.wrap ((p0l.length:Int) - 1))) ((i64.wrap ((p0l.length:Int) - 1))<=(p0l.length:Int)))).bind fun _=>(hZ (p0l.take ((i64.wrap ((p0l.length:Int) - 1)).toNat))).bind fun b=>(chk (And (0<=b) (b<=(p0l.length:Int)))).bind fun _=>((dQ n) (p0l.take b.toNat)).bind fun d=>(chk (And (0<=b) (And (b<=(i64.wrap ((p0l.length:Int) - 1))) ((i64.wrap ((p0l.length:Int) - 1))<=(p0l.length:Int))))).bind fun _=>((dQ n) ((p0l.take ((i64.wrap ((p0l.length:Int) - 1)).toNat)).drop b.toNat)).bind fun e=>some (Min.min 100000 (i64.wrap ((i64.wrap (d+e))+1)))) else (if a.1==6 then ((chk (And (0<=(i64.wrap ((p0l.length:Int) - 1))) ((i64.wrap ((p0l.length:Int) - 1))<=(p0l.length:Int)))).bind fun _=>((dQ n) (p0l.take ((i64.wrap ((p0l.length:Int) - 1)).toNat))).bind fun f=>some (Min.min 100000 (i64.wrap (f+1)))) else (if a.1==7 then ((chk (And (0<=(i64.wrap ((p0l.length:Int) - 1))) ((i64.wrap ((p0l.length:Int) - 1))<=(p0l.length:Int)))).bind fun _=>((dQ n) (p0l.take ((i64.wrap ((p0l.length:Int) - 1)).toNat))).bind fun g=>some (Min.min 100000 (i64.wrap ((i64.wrap ((i64.wrap (g+3))*a.2.2.2))+1)))) else (some 1))))
def lH (a:List Yq1):Option (List Yq1):=
 (cM 32 ([] :List Yq1) a).bind fun b=>some b
def lI (b:(List Yq1)) (c:(List Yq1)) (a:Int×Int×Int×Int):Option (List Yq1):=
 (lH b).bind fun d=>(cM 32 d c).bind fun e=>(cM 32 e ([(a.1,a.2.1,a.2.2.1,a.2.2.2)])).bind fun f=>some f
def tJ (a:Int):Option (List Yq1):=
 some ([(a,0,0,0)])
def mB:Nat->(List Yq1)->Int->Int->Option (List Yq1)
 | 0,_,_,_=>none
 | n+1,p0e,p1low,p2high =>
  if p2high==0 then ((tJ 2).bind fun b=>some b) else (((mB n) p0e (Max.max 0 (i64.wrap (p1low - 1))) (i64.wrap (p2high - 1))).bind fun c=>(lI p0e c (4,0,0,0)).bind fun a=>if decide (p1low>0) then (some a) else ((tJ 2).bind fun d=>(lI a d (5,0,0,0)).bind fun e=>some e))
def cR:Nat->(List Yq1)->Option (List Yq1)
 | 0,_=>none
 | n+1,p0l =>
  (aG p0l (i64.wrap ((p0l.length:Int) - 1))).bind fun a=>Option.bind ((if a.1==4 then (some (a.1==4)) else (some (a.1==5)):Option Bool)) (fun c=>if c then ((chk (And (0<=(i64.wrap ((p0l.length:Int) - 1))) ((i64.wrap ((p0l.length:Int) - 1))<=(p0l.length:Int)))).bind fun _=>(hZ (p0l.take ((i64.wrap ((p0l.length:Int) - 1)).toNat))).bind fun b=>(chk (And (0<=b) (b<=(p0l.length:Int)))).bind fun _=>((cR n) (p0l.take b.toNat)).bind fun d=>(chk (And (0<=b) (And (b<=(i64.wrap ((p0l.length:Int) - 1))) ((i64.wrap ((p0l.length:Int) - 1))<=(p0l.length:Int))))).bind fun _=>((cR n) ((p0l.take ((i64.wrap ((p0l.length:Int) - 1)).toNat)).drop b.toNat)).bind fun e=>(lI d e (a.1,a.2.1,a.2.2.1,a.2.2.2)).bind fun f=>some f) else (if a.1==6 then ((chk (And (0<=(i64.wrap ((p0l.length:Int) - 1))) ((i64.wrap ((p0l.length:Int) - 1))<=(p0l.length:Int)))).bind fun _=>((cR n) (p0l.take ((i64.wrap ((p0l.length:Int) - 1)).toNat))).bind fun g=>(lI g ([] :List Yq1) (a.1,a.2.1,a.2.2.1,a.2.2.2)).bind fun h=>some h) else (if a.1==7 then ((chk (And (0<=(i64.wrap ((p0l.length:Int) - 1))) ((i64.wrap ((p0l.length:Int) - 1))<=(p0l.length:Int)))).bind fun _=>((cR n) (p0l.take ((i64.wrap ((p0l.length:Int) - 1)).toNat))).bind fun i=>(mB gx i a.2.2.1 a.2.2.2).bind fun j=>some j) else (some ([(a.1,a.2.1,a.2.2.1,a.2.2.2)])))))
def l7 (a:(List Yq1)):Option (((List Yq1))×Bool):=
 (kH a).bind fun c=>if c then ((dQ gx a).bind fun d=>if decide (d>5000) then (some ([],false)) else ((cR gx a).bind fun b=>if decide ((b.length:Int)>400) then (some ([],false)) else (some (b,true)))) else (some ([],false))
def jn (b:Int) (c:Int) (a:Int×List Int):Option (Out RF (Int×List Int)):=
 if decide (a.1<(a.2.length:Int)) then (Option.bind (((chk (0<=a.1)).bind fun _=>if (tn (oK b a.1) 1)==1 then ((aG a.2 a.1).bind fun d=>(aG a.2 a.1).bind fun f=>some (a.2.set a.1.toNat (orI d c))) else (some a.2):Option (List Int))) (fun e=>some (.nxt (i64.wrap (a.1+1),e)))) else (some (.brk (a.1,a.2)))
def n6 (a:(List Int)×Int×Int×(List Int)×Bool) (b:Int) (c:Int):Option RF:=
 aJ (ak (jn b c) aP (0,a.2.2.2.1)) (fun d=>some d) (fun e=>some (a.1,a.2.1,a.2.2.1,e.2,a.2.2.2.2))
def dn:Nat->RF->(List Yq1)->Option ((Bool×Int×Int)×(List Int)×Int×Int×(List Int)×Bool)
 | 0,_,_=>none
 | n+1,p0,p1 =>
  (aG p1 (i64.wrap ((p1.length:Int) - 1))).bind fun g=>if g.1==2 then (some ((true,0,0),p0.1,p0.2.1,p0.2.2.1,p0.2.2.2.1,p0.2.2.2.2)) else (if g.1==3 then ((cM 8 p0.1 ([g.2.1])).bind fun p=>(cM 8 p0.2.2.2.1 ([0])).bind fun q=>some ((false,xf 1 (p0.1.length:Int),xf 1 (p0.1.length:Int)),p,p0.2.1,p0.2.2.1,q,p0.2.2.2.2)) else (if g.1==4 then ((chk (And (0<=(i64.wrap ((p1.length:Int) - 1))) ((i64.wrap ((p1.length:Int) - 1))<=(p1.length:Int)))).bind fun _=>(hZ (p1.take ((i64.wrap ((p1.length:Int) - 1)).toNat))).bind fun h=>(chk (And (0<=h) (h<=(p1.length:Int)))).bind fun _=>((dn n) (p0.1,p0.2.1,p0.2.2.1,p0.2.2.2.1,p0.2.2.2.2) (p1.take h.toNat)).bind fun b=>(chk (And (0<=h) (And (h<=(i64.wrap ((p1.length:Int) - 1))) ((i64.wrap ((p1.length:Int) - 1))<=(p1.length:Int))))).bind fun _=>((dn n) (b.2.1,b.2.2.1,b.2.2.2.1,b.2.2.2.2.1,b.2.2.2.2.2) ((p1.take ((i64.wrap ((p1.length:Int) - 1)).toNat)).drop h.toNat)).bind fun a=>(n6 (a.2.1,a.2.2.1,a.2.2.2.1,a.2.2.2.2.1,a.2.2.2.2.2) b.1.2.2 a.1.2.1).bind fun d=>if b.1.1 then (Option.bind ((if b.1.1 then (some (a.1.1,orI b.1.2.1 a.1.2.1,a.1.2.2)) else (some (a.1.1,b.1.2.1,a.1.2.2)):Option (Bool×Int×Int))) (fun j=>Option.bind ((if a.1.1 then (some (j.1,j.2.1,orI b.1.2.2 a.1.2.2)) else (some (j.1,j.2.1,j.2.2)):Option (Bool×Int×Int))) (fun m=>some ((m.1,m.2.1,m.2.2),d.1,d.2.1,d.2.2.1,d.2.2.2.1,d.2.2.2.2)))) else (Option.bind ((if b.1.1 then (some (false,orI b.1.2.1 a.1.2.1,a.1.2.2)) else (some (false,b.1.2.1,a.1.2.2)):Option (Bool×Int×Int))) (fun k=>Option.bind ((if a.1.1 then (some (k.1,k.2.1,orI b.1.2.2 a.1.2.2)) else (some (k.1,k.2.1,k.2.2)):Option (Bool×Int×Int))) (fun o=>some ((o.1,o.2.1,o.2.2),d.1,d.2.1,d.2.2.1,d.2.2.2.1,d.2.2.2.2))))) else (if g.1==5 then ((chk (And (0<=(i64.wrap ((p1.length:Int) - 1))) ((i64.wrap ((p1.length:Int) - 1))<=(p1.length:Int)))).bind fun _=>(hZ (p1.take ((i64.wrap ((p1.length:Int) - 1)).toNat))).bind fun i=>(chk (And (0<=i) (i<=(p1.length:Int)))).bind fun _=>((dn n) (p0.1,p0.2.1,p0.2.2.1,p0.2.2.2.1,p0.2.2.2.2) (p1.take i.toNat)).bind fun e=>(chk (And (0<=i) (And (i<=(i64.wrap ((p1.length:Int) - 1))) ((i64.wrap ((p1.length:Int) - 1))<=(p1.length:Int))))).bind fun _=>((dn n) (e.2.1,e.2.2.1,e.2.2.2.1,e.2.2.2.2.1,e.2.2.2.2.2) ((p1.take ((i64.wrap ((p1.length:Int) - 1)).toNat)).drop i.toNat)).bind fun c=>if e.1.1 then (some ((true,orI e.1.2.1 c.1.2.1,orI e.1.2.2 c.1.2.2),c.2.1,c.2.2.1,c.2.2.2.1,c.2.2.2.2.1,c.2.2.2.2.2)) else (some ((c.1.1,orI e.1.2.1 c.1.2.1,orI e.1.2.2 c.1.2.2),c.2.1,c.2.2.1,c.2.2.2.1,c.2.2.2.2.1,c.2.2.2.2.2))) else (if g.1==6 then ((chk (And (0<=(i64.wrap ((p1.length:Int) - 1))) ((i64.wrap ((p1.length:Int) - 1))<=(p1.length:Int)))).bind fun _=>((dn n) (p0.1,p0.2.1,p0.2.2.1,p0.2.2.2.1,p0.2.2.2.2) (p1.take ((i64.wrap ((p1.length:Int) - 1)).toNat))).bind fun f=>(n6 (f.2.1,f.2.2.1,f.2.2.2.1,f.2.2.2.2.1,f.2.2.2.2.2) f.1.2.2 f.1.2.1).bind fun l=>some ((true,f.1.2.1,f.1.2.2),l.1,l.2.1,l.2.2.1,l.2.2.2.1,l.2.2.2.2)) else (some ((false,0,0),p0.1,p0.2.1,p0.2.2.1,p0.2.2.2.1,p0.2.2.2.2))))))
def dq (b:(List Yq1)×Bool) (a:Int×Int):Option (Out (RF×Bool) (Int×Int)):=
 if decide (a.2<(b.1.length:Int)) then (Option.bind (((aG b.1 a.2).bind fun c=>if c.1==3 then (some (i64.wrap (a.1+1))) else (some a.1):Option Int)) (fun d=>some (.nxt (d,i64.wrap (a.2+1))))) else (some (.brk (a.1,a.2)))
def gO (c:List Yq1):Option (RF×Bool):=
 (l7 c).bind fun b=>if b.2 then (aJ (ak (dq b) aP (0,0)) (fun d=>some d) (fun e=>if decide (e.1>20) then (some ((([] :List Int),0,0,([] :List Int),false),false)) else ((dn gx (([] :List Int),0,0,([] :List Int),false) b.1).bind fun a=>some ((a.2.1,a.1.2.1,a.1.2.2,a.2.2.2.2.1,a.1.1),true)))) else (some ((([] :List Int),0,0,([] :List Int),false),false))
def ic (b:(List Int)×Int×Int×(List Int)×Bool) (c:Int) (a:Int×Int):Option Dq:=
 if decide (a.2<(b.1.length:Int)) then (Option.bind (((chk (0<=i64.wrap (a.2+1))).bind fun _=>if (tn (oK c (i64.wrap (a.2+1))) 1)==1 then ((aG b.2.2.2.1 a.2).bind fun d=>some (orI a.1 d)) else (some a.1):Option Int)) (fun e=>some (.nxt (e,i64.wrap (a.2+1))))) else (some (.brk (a.1,a.2)))
def ig (b:(List Int)×Int×Int×(List Int)×Bool) (c:Int) (d:Int×Int) (a:Int×Int):Option Dq:=
 if decide (a.2<(b.1.length:Int)) then (Option.bind (((chk (0<=a.2)).bind fun _=>if (tn (oK d.1 a.2) 1)==1 then ((aG b.1 a.2).bind fun e=>if e==c then ((chk (0<=i64.wrap (a.2+1))).bind fun _=>some (orI a.1 (xf 1 (i64.wrap (a.2+1))))) else (some a.1)) else (some a.1):Option Int)) (fun f=>some (.nxt (f,i64.wrap (a.2+1))))) else (some (.brk (a.1,a.2)))
def oS (a:(List Int)×Int×Int×(List Int)×Bool) (b:Int) (c:Int):Option Int:=
 Option.bind ((if (tn b 1)==1 then (some a.2.1) else (some 0):Option Int)) (fun d=>aJ (ak (ic a b) aP (d,0)) (fun r=>some r) (fun e=>aJ (ak (ig a c e) aP (0,0)) (fun r=>some r) (fun f=>some f.1)))
def pz (b:List Int) (c:Int) (a:Int):Option (Out Int Int):=
 if decide (a<(b.length:Int)) then ((aG b a).bind fun d=>if d==c then (some (.ret a)) else (some (.nxt (i64.wrap (a+1))))) else (some (.brk a))
def n7 (a:List Int) (b:Int):Option Int:=
 aJ (ak (pz a b) aP 0) (fun r=>some r) (fun c=>some (-1))
def l8 (a:(List Int)×Int×Int×(List Int)×Bool) (b:Int):Option Bool:=
 if (tn b 1)==1 then (if a.2.2.2.2 then (some true) else (some ((tn (oK b 1) a.2.2.1) !=0))) else (some ((tn (oK b 1) a.2.2.1) !=0))
def iR (b:(List Int)×Int×Int×(List Int)×Bool) (f:(List Int)×Int×Int×(List Bool)×(List (List Int))) (a:(List Int)×(List Int)×Int):Option (Out (Yq2×Bool) ((List Int)×(List Int)×Int)):=
 if decide (a.2.2<9) then ((aG a.1 f.2.1).bind fun g=>(oS (b.1,b.2.1,b.2.2.1,b.2.2.2.1,b.2.2.2.2) g a.2.2).bind fun c=>Option.bind ((if c !=0 then ((n7 a.1 c).bind fun d=>if decide (d<0) then ((cM 8 a.1 ([c])).bind fun h=>some (h,(a.1.length:Int))) else (some (a.1,d))) else (some (a.1,-1)):Option ((List Int)×Int))) (fun e=>(cM 8 a.2.1 ([e.2])).bind fun i=>some (.nxt (e.1,i,i64.wrap (a.2.2+1))))) else (some (.brk (a.1,a.2.1,a.2.2)))
def fB (b:(List Int)×Int×Int×(List Int)×Bool) (d:Int) (a:(List Int)×Int×Int×(List Bool)×(List (List Int))):Option (Out (Yq2×Bool) ((List Int)×Int×Int×(List Bool)×(List (List Int)))):=
 if decide (a.2.1<(a.1.length:Int)) then (aJ (ak (iR b a) aP (a.1,([] :List Int),0)) (fun r=>some (.ret r)) (fun c=>if decide ((c.1.length:Int)>d) then (some (.ret ((0,[],[]),false))) else ((aG c.1 a.2.1).bind fun e=>(l8 (b.1,b.2.1,b.2.2.1,b.2.2.2.1,b.2.2.2.2) e).bind fun f=>(cM 1 a.2.2.2.1 ([f])).bind fun g=>(cM 24 a.2.2.2.2 ([c.2.1])).bind fun h=>some (.nxt (c.1,i64.wrap (a.2.1+1),a.2.2.1,g,h))))) else (some (.brk (a.1,a.2.1,a.2.2.1,a.2.2.2.1,a.2.2.2.2)))
def jo (b:(List Int)×Int×Int×(List Int)×Bool) (c:Int):Option (Yq2×Bool):=
 aJ (ak (fB b c) aP ([1],0,0,[],[])) (fun r=>some r) (fun a=>some ((a.2.2.1,a.2.2.2.1,a.2.2.2.2),true))
def xA (a:(List Int)×Int):Option (Out Yq2 ((List Int)×Int)):=
 if decide (a.2<9) then ((cM 8 a.1 ([-1])).bind fun b=>some (.nxt (b,i64.wrap (a.2+1)))) else (some (.brk (a.1,a.2)))
def pA:Option Yq2:=
 aJ (ak (xA) aP (([] :List Int),0)) (fun r=>some r) (fun a=>some (0,[false],[a.1]))
def gA (f:Int×(List Bool)×(List (List Int))) (d:List Int) (g:List Bool) (h:(List Int)×(List Int)×Int×Int×(List Bool)×(List (List Int))) (a:(List Int)×(List Int)×(List Int)×Int):Option (Out Yq2 ((List Int)×(List Int)×(List Int)×Int)):=
 if decide (a.2.2.2<9) then ((aG a.2.1 h.2.2.1).bind fun i=>(aG f.2.2 i).bind fun j=>(aG j a.2.2.2).bind fun b=>Option.bind ((if decide (b≥0) then ((aG g b).bind fun k=>if k then ((aG d b).bind fun l=>(n7 a.1 l).bind fun e=>if decide (e<0) then ((aG d b).bind fun m=>(cM 8 a.1 ([m])).bind fun n=>(cM 8 a.2.1 ([b])).bind fun o=>some (n,o,(a.1.length:Int))) else (some (a.1,a.2.1,e))) else (some (a.1,a.2.1,-1))) else (some (a.1,a.2.1,-1)):Option ((List Int)×(List Int)×Int))) (fun c=>(cM 8 a.2.2.1 ([c.2.2])).bind fun p=>some (.nxt (c.1,c.2.1,p,i64.wrap (a.2.2.2+1))))) else (some (.brk (a.1,a.2.1,a.2.2.1,a.2.2.2)))
def jE (c:Int×(List Bool)×(List (List Int))) (d:List Int) (e:List Bool) (a:(List Int)×(List Int)×Int×Int×(List Bool)×(List (List Int))):Option (Out Yq2 ((List Int)×(List Int)×Int×Int×(List Bool)×(List (List Int)))):=
 if decide (a.2.2.1<(a.1.length:Int)) then (aJ (ak (gA c d e a) aP (a.1,a.2.1,([] :List Int),0)) (fun r=>some (.ret r)) (fun b=>(aG b.2.1 a.2.2.1).bind fun f=>(aG c.2.1 f).bind fun g=>(cM 1 a.2.2.2.2.1 ([g])).bind fun h=>(cM 24 a.2.2.2.2.2 ([b.2.2.1])).bind fun i=>some (.nxt (b.1,b.2.1,i64.wrap (a.2.2.1+1),a.2.2.2.1,h,i)))) else (some (.brk (a.1,a.2.1,a.2.2.1,a.2.2.2.1,a.2.2.2.2.1,a.2.2.2.2.2)))
def iS (a:Int×(List Bool)×(List (List Int))) (d:List Int) (e:List Bool):Option Yq2:=
 (aG e a.1).bind fun f=>if f then ((aG d a.1).bind fun g=>aJ (ak (jE a d e) aP ([g],[a.1],0,0,[],[])) (fun r=>some r) (fun b=>some (b.2.2.2.1,b.2.2.2.2.1,b.2.2.2.2.2))) else ((pA).bind fun c=>some (c.1,c.2.1,c.2.2))
def l9 (c:Int×(List Bool)×(List (List Int))) (b:(List Bool)×Int) (a:(List Bool)×Int):Option (Out (List Bool) ((List Bool)×Int)):=
 if decide (a.2<9) then (Option.bind (((aG c.2.2 b.2).bind fun d=>(aG d a.2).bind fun e=>if decide (e≥0) then ((aG c.2.2 b.2).bind fun f=>(aG f a.2).bind fun g=>(aG a.1 g).bind fun h=>if h then ((aG a.1 b.2).bind fun j=>some (a.1.set b.2.toNat true)) else (some a.1)) else (some a.1):Option (List Bool))) (fun i=>some (.nxt (i,i64.wrap (a.2+1))))) else (some (.brk (a.1,a.2)))
def jq (b:Int×(List Bool)×(List (List Int))) (a:(List Bool)×Int):Option (Out (List Bool) ((List Bool)×Int)):=
 if decide (a.2<(b.2.1.length:Int)) then (aJ (ak (l9 b a) aP (a.1,0)) (fun r=>some (.ret r)) (fun c=>some (.nxt (c.1,i64.wrap (a.2+1))))) else (some (.brk (a.1,a.2)))
def ma (b:Int×(List Bool)×(List (List Int))) (a:(List Bool)×Int):Option (Out (List Bool) ((List Bool)×Int)):=
 if decide (a.2<(b.2.1.length:Int)) then (aJ (ak (jq b) aP (a.1,0)) (fun r=>some (.ret r)) (fun c=>some (.nxt (c.1,i64.wrap (a.2+1))))) else (some (.brk (a.1,a.2)))
def lJ (a:Int×(List Bool)×(List (List Int))):Option (List Bool):=
 (cM 1 ([] :List Bool) a.2.1).bind fun b=>aJ (ak (ma a) aP (b,0)) (fun r=>some r) (fun c=>some c.1)
def nB (c:Int×(List Bool)×(List (List Int))) (d:List Int) (e:Int) (a:(List Int)×Int):Option PX:=
 if decide (a.2<9) then (Option.bind (((aG c.2.2 e).bind fun f=>(aG f a.2).bind fun b=>if decide (b<0) then ((cM 8 a.1 ([-1])).bind fun g=>some g) else ((aG d b).bind fun h=>(cM 8 a.1 ([h])).bind fun i=>some i):Option (List Int))) (fun j=>some (.nxt (j,i64.wrap (a.2+1))))) else (some (.brk (a.1,a.2)))
def pP (c:Int×(List Bool)×(List (List Int))) (a:List Int) (b:Int):Option (List Int):=
 (aG a b).bind fun d=>aJ (ak (nB c a b) aP ([d],0)) (fun r=>some r) (fun e=>some e.1)
def fC (b:Int×(List Bool)×List (List Int)) (c:List Bool) (a:(List Int)×Int):Option PX:=
 if decide (a.2<(b.2.1.length:Int)) then ((aG b.2.1 a.2).bind fun d=>Option.bind ((if d then (some 1) else (some 0):Option Int)) (fun e=>(aG c a.2).bind fun f=>Option.bind ((if f then (some e) else (some (-1)):Option Int)) (fun g=>(cM 8 a.1 ([g])).bind fun h=>some (.nxt (h,i64.wrap (a.2+1)))))) else (some (.brk (a.1,a.2)))
def fD (b:(List (List Int))×(List Int)×Int) (c:List Int) (a:Int×Int):Option (Out (List Int) (Int×Int)):=
 if decide (a.2<(b.1.length:Int)) then (Option.bind (((aG b.1 a.2).bind fun d=>(nY d c).bind fun e=>if e==0 then (some a.2) else (some a.1):Option Int)) (fun f=>some (.nxt (f,i64.wrap (a.2+1))))) else (some (.brk (a.1,a.2)))
def fE (b:Int×(List Bool)×List (List Int)) (c:(List Int)×Int) (a:(List (List Int))×(List Int)×Int):Option (Out (List Int) ((List (List Int))×(List Int)×Int)):=
 if decide (a.2.2<(b.2.1.length:Int)) then (Option.bind (((aG c.1 a.2.2).bind fun h=>if decide (h<0) then ((cM 8 a.2.1 ([(-1)])).bind fun i=>some (a.1,i)) else ((pP (b.1,b.2.1,b.2.2) c.1 a.2.2).bind fun d=>aJ (ak (fD a d) aP ((-1),0)) (fun l=>none) (fun e=>Option.bind ((if decide (e.1<0) then ((cM 24 a.1 ([d])).bind fun j=>some (j,(a.1.length:Int))) else (some (a.1,e.1)):Option ((List (List Int))×Int))) (fun f=>(cM 8 a.2.1 ([f.2])).bind fun k=>some (f.1,k)))):Option ((List (List Int))×List Int))) (fun g=>some (.nxt (g.1,g.2,i64.wrap (a.2.2+1))))) else (some (.brk (a.1,a.2.1,a.2.2)))
def lK (b:Int×(List Bool)×List (List Int)) (a:(List Int)×Int):Option PX:=
 if decide (a.2<=(b.2.1.length:Int)) then (aJ (ak (fE b a) aP (([] :List (List Int)),([] :List Int),0)) (fun d=>some (.ret d)) (fun c=>(nY c.2.1 a.1).bind fun e=>if e==0 then (some (.ret a.1)) else (some (.nxt (c.2.1,i64.wrap (a.2+1)))))) else (some (.brk (a.1,a.2)))
def jr (a:Int×(List Bool)×List (List Int)):Option (List Int):=
 (lJ (a.1,a.2.1,a.2.2)).bind fun b=>aJ (ak (fC a b) aP (([] :List Int),0)) (fun c=>some c) (fun d=>aJ (ak (lK a) aP (d.1,0)) (fun e=>some e) (fun f=>some f.1))
def fF (a:Int×(List Bool)×(List (List Int))):Option Yq2:=
 (jr (a.1,a.2.1,a.2.2)).bind fun c=>(lJ (a.1,a.2.1,a.2.2)).bind fun d=>(iS (a.1,a.2.1,a.2.2) c d).bind fun b=>some (b.1,b.2.1,b.2.2)
def ij (d:(List Yq1)):Option (Yq2×Bool):=
 (gO d).bind fun a=>if a.2 then ((jo (a.1.1,a.1.2.1,a.1.2.2.1,a.1.2.2.2.1,a.1.2.2.2.2) 200).bind fun b=>if b.2 then ((fF (b.1.1,b.1.2.1,b.1.2.2)).bind fun c=>if decide ((c.2.1.length:Int)>12) then (some ((0,[],[]),false)) else (some ((c.1,c.2.1,c.2.2),true))) else (some ((0,[],[]),false))) else (some ((0,[],[]),false))
def fm (b:Int×(List Bool)×(List (List Int))) (c:Int×(List Bool)×(List (List Int))) (a:Int):Option (Out Bool Int):=
 if decide (a<(b.2.1.length:Int)) then ((aG b.2.1 a).bind fun d=>(aG c.2.1 a).bind fun e=>if d !=e then (some (.ret false)) else (some (.nxt (i64.wrap (a+1))))) else (some (.brk a))
def fo (b:Int×(List Bool)×(List (List Int))) (c:Int×(List Bool)×(List (List Int))) (a:Int):Option (Out Bool Int):=
 if decide (a<(b.2.2.length:Int)) then ((aG b.2.2 a).bind fun d=>(aG c.2.2 a).bind fun e=>(nY d e).bind fun f=>if f !=0 then (some (.ret false)) else (some (.nxt (i64.wrap (a+1))))) else (some (.brk a))
def fG (a:Int×(List Bool)×(List (List Int))) (b:Int×(List Bool)×(List (List Int))):Option Bool:=
 if a.1 !=b.1 then (some false) else (if (a.2.1.length:Int) !=(b.2.1.length:Int) then (some false) else (if (a.2.2.length:Int) !=(b.2.2.length:Int) then (some false) else (aJ (ak (fm a b) aP 0) (fun r=>some r) (fun c=>aJ (ak (fo a b) aP 0) (fun r=>some r) (fun d=>some true)))))
def il (d:List Yq2) (b:Int×(List Bool)×(List (List Int))) (a:Int):Option (Out Int Int):=
 if decide (a<(d.length:Int)) then ((aG d a).bind fun c=>(fG (c.1,c.2.1,c.2.2) (b.1,b.2.1,b.2.2)).bind fun e=>if e then (some (.ret a)) else (some (.nxt (i64.wrap (a+1))))) else (some (.brk a))
def oT (a:List Yq2) (b:Int×(List Bool)×(List (List Int))):Option Int:=
 aJ (ak (il a b) aP 0) (fun r=>some r) (fun c=>some (-1))
def dt (c:List Yq3) (a:Int×(List Yq2)×(List Yq3)):Option (Out (Yq6×Bool) (Int×(List Yq2)×(List Yq3))):=
 if decide (a.1<(c.length:Int)) then ((aG c a.1).bind fun h=>(ij h.2.1).bind fun b=>if b.2 then ((aG c a.1).bind fun i=>(bV i.1 1 99).bind fun j=>if j then (if decide (a.1>0) then ((aG c (i64.wrap (a.1 - 1))).bind fun k=>(aG c a.1).bind fun l=>if decide (k.1≥l.1) then (some (.ret (([],[]),false))) else ((oT a.2.1 (b.1.1,b.1.2.1,b.1.2.2)).bind fun f=>Option.bind ((if decide (f<0) then ((cM 56 a.2.1 ([(b.1.1,b.1.2.1,b.1.2.2)])).bind fun m=>some ((a.2.1.length:Int),m,a.2.2)) else (some (f,a.2.1,a.2.2)):Option (Int×(List Yq2)×(List Yq3)))) (fun d=>(aG c a.1).bind fun n=>(aG c a.1).bind fun o=>(lH o.2.1).bind fun p=>(cM 40 d.2.2 ([(n.1,p,d.1)])).bind fun q=>some (.nxt (i64.wrap (a.1+1),d.2.1,q))))) else ((oT a.2.1 (b.1.1,b.1.2.1,b.1.2.2)).bind fun g=>Option.bind ((if decide (g<0) then ((cM 56 a.2.1 ([(b.1.1,b.1.2.1,b.1.2.2)])).bind fun r=>some ((a.2.1.length:Int),r,a.2.2)) else (some (g,a.2.1,a.2.2)):Option (Int×(List Yq2)×(List Yq3)))) (fun e=>(aG c a.1).bind fun s=>(aG c a.1).bind fun t=>(lH t.2.1).bind fun u=>(cM 40 e.2.2 ([(s.1,u,e.1)])).bind fun v=>some (.nxt (i64.wrap (a.1+1),e.2.1,v))))) else (some (.ret (([],[]),false)))) else (some (.ret (([],[]),false)))) else (some (.brk (a.1,a.2.1,a.2.2)))
def oU (a:List Yq3):Option (Yq6×Bool):=
 if decide ((a.length:Int)>4) then (some (([],[]),false)) else (aJ (ak (dt a) aP (0,[],[])) (fun r=>some r) (fun b=>some ((b.2.1,b.2.2),true)))
def iT (d:(List Yq1)) (e:(List Yq1)) (a:Int):Option (Out Bool Int):=
 if decide (a<(d.length:Int)) then ((aG d a).bind fun b=>(aG e a).bind fun c=>if (b.1==c.1)&&((b.2.1==c.2.1)&&((b.2.2.1==c.2.2.1)&&((b.2.2.2==c.2.2.2)&&true))) then (some (.nxt (i64.wrap (a+1)))) else (some (.ret false))) else (some (.brk a))
def pB (a:(List Yq1)) (b:(List Yq1)):Option Bool:=
 if (a.length:Int) !=(b.length:Int) then (some false) else (aJ (ak (iT a b) aP 0) (fun r=>some r) (fun c=>some true))
def eu (d:(List Yq2)×(List Yq3)) (e:(List Yq2)×(List Yq3)) (a:Int):Option (Out Bool Int):=
 if decide (a<(d.1.length:Int)) then ((aG d.1 a).bind fun b=>(aG e.1 a).bind fun c=>(fG (b.1,b.2.1,b.2.2) (c.1,c.2.1,c.2.2)).bind fun f=>if f then (some (.nxt (i64.wrap (a+1)))) else (some (.ret false))) else (some (.brk a))
def ez (b:(List Yq2)×(List Yq3)) (c:(List Yq2)×(List Yq3)) (a:Int):Option (Out Bool Int):=
 if decide (a<(b.2.length:Int)) then ((aG b.2 a).bind fun d=>(aG c.2 a).bind fun e=>if d.1 !=e.1 then (some (.ret false)) else ((aG b.2 a).bind fun f=>(aG c.2 a).bind fun g=>(pB f.2.1 g.2.1).bind fun h=>if h then ((aG b.2 a).bind fun i=>(aG c.2 a).bind fun j=>if i.2.2 !=j.2.2 then (some (.ret false)) else (some (.nxt (i64.wrap (a+1))))) else (some (.ret false)))) else (some (.brk a))
def fY (a:(List Yq2)×(List Yq3)) (b:(List Yq2)×(List Yq3)):Option Bool:=
 if (a.1.length:Int) !=(b.1.length:Int) then (some false) else (if (a.2.length:Int) !=(b.2.length:Int) then (some false) else (aJ (ak (eu a b) aP 0) (fun r=>some r) (fun c=>aJ (ak (ez a b) aP 0) (fun r=>some r) (fun d=>some true))))
def dR (a:(List Yq2)×(List Yq3)):Option Bool:=
 (oU a.2).bind fun b=>if b.2 then ((fY (b.1.1,b.1.2) (a.1,a.2)).bind fun c=>some c) else (some false)
def eG (b:(List Yq2)×(List Yq3)) (c:Int) (a:Int):Option (Out Int Int):=
 if decide (a<(b.2.length:Int)) then ((aG b.2 a).bind fun d=>if d.1==c then (some (.ret a)) else (some (.nxt (i64.wrap (a+1))))) else (some (.brk a))
def iU (a:(List Yq2)×(List Yq3)) (b:Int):Option Int:=
 aJ (ak (eG a b) aP 0) (fun r=>some r) (fun c=>some (-1))
def cD (a:Int×Yq4):Option Int:=
 (m_s_IsValidHistory (a.1,a.2)).bind fun b=>if b then (some (i64.wrap ((i64.wrap (a.1+(a.2.length:Int))) - 1))) else (some 0)
def cO (a:(Int×Yq4)×Yq6×Yq7×ByteArray) (b:Int):Option (Out Bool Int):=
 if decide (b<(a.2.2.1.length:Int)) then ((aG a.2.2.1 b).bind fun c=>(bV c.1 1 99).bind fun d=>if d then (if decide (b>0) then ((aG a.2.2.1 (i64.wrap (b - 1))).bind fun e=>if decide (e.1≥c.1) then (some (.ret false)) else ((iU (a.2.1.1,a.2.1.2) c.2.1).bind fun f=>if decide (f<0) then (some (.ret false)) else ((cD (a.1.1,a.1.2)).bind fun g=>(bV c.2.2 0 g).bind fun h=>if h then (some (.nxt (i64.wrap (b+1)))) else (some (.ret false))))) else ((iU (a.2.1.1,a.2.1.2) c.2.1).bind fun i=>if decide (i<0) then (some (.ret false)) else ((cD (a.1.1,a.1.2)).bind fun j=>(bV c.2.2 0 j).bind fun k=>if k then (some (.nxt (i64.wrap (b+1)))) else (some (.ret false))))) else (some (.ret false))) else (some (.brk b))
def ve (a:(Int×Yq4)×Yq6×Yq7×ByteArray):Option Bool:=
 aJ (ak (cO a) aP 0) (fun r=>some r) (fun b=>some (decide ((a.2.2.1.length:Int)<=4)))
def oV (b:ByteArray) (d:Int) (a:(List ByteArray)×Int×Int):Option (Out (List ByteArray) ((List ByteArray)×Int×Int)):=
 if decide (a.2.2<((b.size:Nat):Int)) then (Option.bind (((lu b a.2.2).bind fun e=>if e==d then ((sg b a.2.1 a.2.2).bind fun f=>(cM 16 a.1 ([f])).bind fun g=>some (g,i64.wrap (a.2.2+1))) else (some (a.1,a.2.1)):Option ((List ByteArray)×Int))) (fun c=>some (.nxt (c.1,c.2,i64.wrap (a.2.2+1))))) else (some (.brk (a.1,a.2.1,a.2.2)))
def im (a:ByteArray) (c:Int):Option (List ByteArray):=
 aJ (ak (oV a c) aP (([] :List ByteArray),0,0)) (fun d=>some d) (fun b=>(sg a b.2.1 ((a.size:Nat):Int)).bind fun e=>(cM 16 b.1 ([e])).bind fun f=>some f)
def dF (a:Int×ByteArray):Option (Out ByteArray (Int×ByteArray)):=
 if a.1 !=0 then (Option.bind ((if decide ((Int.tmod a.1 10)<0) then (some (i64.wrap (-(Int.tmod a.1 10)))) else (some (Int.tmod a.1 10)):Option Int)) (fun b=>(mU (yB ([IntKind.u8.wrap (i64.wrap (48+b))])) a.2).bind fun c=>some (.nxt (CZ a.1 10,c)))) else (some (.brk (a.1,a.2)))
def bW (a:Int):Option ByteArray:=
 if a==0 then (some (⟨#[48]⟩)) else (aJ (ak (dF) aP (a,(⟨#[]⟩:ByteArray))) (fun c=>some c) (fun b=>if decide (a<0) then ((mU (⟨#[45]⟩) b.2).bind fun d=>some d) else (some b.2)))
def ir (b:ByteArray) (a:Int×Int×Int):Option (Out (Int×Bool) (Int×Int×Int)):=
 if decide (a.2.2<((b.size:Nat):Int)) then (if decide (a.2.2<11) then (Option.bind (((lu b a.2.2).bind fun d=>if decide (d≥48) then ((lu b a.2.2).bind fun e=>if decide (e<=57) then ((lu b a.2.2).bind fun f=>some (i64.wrap ((i64.wrap (a.1*10))+(i64.wrap (IntKind.u8.wrap (f - 48)))),i64.wrap (a.2.1+1))) else (some (a.1,a.2.1))) else (some (a.1,a.2.1)):Option (Int×Int))) (fun c=>some (.nxt (c.1,c.2,i64.wrap (a.2.2+1))))) else (some (.brk (a.1,a.2.1,a.2.2)))) else (some (.brk (a.1,a.2.1,a.2.2)))
def fR (a:ByteArray):Option (Int×Bool):=
 aJ (ak (ir a) aP (0,0,0)) (fun e=>some e) (fun b=>if decide (((a.size:Nat):Int)>0) then ((lu a 0).bind fun f=>Option.bind ((if f==45 then (some (i64.wrap (-b.1))) else (some b.1):Option Int)) (fun c=>if decide (b.2.1>9) then (some (0,false)) else (if decide (((a.size:Nat):Int)>10) then (some (0,false)) else ((bW c).bind fun g=>if g !=a then (some (0,false)) else (some (c,true)))))) else (Option.bind ((some b.1:Option Int)) (fun d=>if decide (b.2.1>9) then (some (0,false)) else (if decide (((a.size:Nat):Int)>10) then (some (0,false)) else ((bW d).bind fun h=>if h !=a then (some (0,false)) else (some (d,true)))))))
def gB (a:Int):Option ByteArray:=
 (mA a).bind fun b=>if b then ((aG ([(⟨#[97]⟩:ByteArray),(⟨#[97,45]⟩:ByteArray),(⟨#[98]⟩:ByteArray),(⟨#[98,45]⟩:ByteArray),(⟨#[99]⟩:ByteArray),(⟨#[99,45]⟩:ByteArray),(⟨#[48]⟩:ByteArray),(⟨#[49]⟩:ByteArray),(⟨#[50]⟩:ByteArray)]) a).bind fun c=>some c) else (some (⟨#[]⟩:ByteArray))
def kI (b:ByteArray) (a:Int):Option (Out (Int×Bool) Int):=
 if decide (a<9) then ((gB a).bind fun c=>if c==b then (some (.ret (a,true))) else (some (.nxt (i64.wrap (a+1))))) else (some (.brk a))
def iu (a:ByteArray):Option (Int×Bool):=
 aJ (ak (kI a) aP 0) (fun r=>some r) (fun b=>some (0,false))
def jt (a:Int×Int×Int×Int):Option ByteArray:=
 (bV a.1 1 99).bind fun b=>if b then ((bV a.2.1 0 4).bind fun c=>if c then ((bV a.2.2.1 0 4).bind fun d=>if d then ((bV a.2.2.2 0 2).bind fun e=>if e then ((bW a.1).bind fun f=>(mU f (⟨#[58]⟩)).bind fun g=>(bW a.2.1).bind fun h=>(mU g h).bind fun i=>(gB (i64.wrap (2*a.2.2.2))).bind fun j=>(mU i j).bind fun k=>(bW a.2.2.1).bind fun l=>(mU k l).bind fun m=>some m) else (some ((⟨#[]⟩:ByteArray)))) else (some ((⟨#[]⟩:ByteArray)))) else (some ((⟨#[]⟩:ByteArray)))) else (some ((⟨#[]⟩:ByteArray)))
def fZ (b:ByteArray):Option (Yq1×Bool):=
 (im b 58).bind fun a=>if (a.length:Int) !=2 then (some ((0,0,0,0),false)) else ((aG a 1).bind fun g=>if ((g.size:Nat):Int) !=3 then (some ((0,0,0,0),false)) else ((aG a 0).bind fun h=>(fR h).bind fun c=>(aG a 1).bind fun i=>(sg i 1 2).bind fun j=>(iu j).bind fun d=>(aG a 1).bind fun k=>(lu k 0).bind fun e=>(aG a 1).bind fun l=>(lu l 2).bind fun f=>(jt (c.1,i64.wrap ((i64.wrap e) - 48),i64.wrap ((i64.wrap f) - 48),CZ d.1 2)).bind fun m=>if m !=b then (some ((0,0,0,0),false)) else (some ((c.1,i64.wrap ((i64.wrap e) - 48),i64.wrap ((i64.wrap f) - 48),CZ d.1 2),true))))
def eP (c:List Yq5) (a:ByteArray×Int):Option (Out ByteArray (ByteArray×Int)):=
 if decide (a.2<(c.length:Int)) then (Is (S:=ByteArray) ((aG c a.2).bind fun b=>(jt (b.2.1,b.2.2.1,b.2.2.2.1,b.2.2.2.2)).bind fun d=>if d==((⟨#[]⟩:ByteArray)) then (some (.inl (.ret ((⟨#[]⟩:ByteArray))))) else (Option.bind ((if decide (a.2>0) then ((mU a.1 (⟨#[32]⟩)).bind fun f=>some f) else (some a.1):Option ByteArray)) (fun e=>(aG c a.2).bind fun g=>if g.1 then ((mU e (⟨#[43]⟩)).bind fun h=>(mU h d).bind fun i=>some (.inr i)) else ((mU e (⟨#[45]⟩)).bind fun j=>(mU j d).bind fun k=>some (.inr k))))) (fun l=>some (.nxt (l,i64.wrap (a.2+1))))) else (some (.brk (a.1,a.2)))
def cT (a:List Yq5):Option ByteArray:=
 if decide ((a.length:Int)>6) then (some ((⟨#[]⟩:ByteArray))) else (aJ (ak (eP a) aP ((⟨#[]⟩:ByteArray),0)) (fun b=>some b) (fun c=>some c.1))
def c7 (c:List ByteArray) (a:Int×List Yq5):Option (Out ((List Yq5)×Bool) (Int×List Yq5)):=
 if decide (a.1<(c.length:Int)) then (if decide (a.1<=6) then ((aG c a.1).bind fun e=>if decide (((e.size:Nat):Int)<2) then (some (.ret (([] :List Yq5),false))) else ((aG c a.1).bind fun d=>(sg d 1 ((d.size:Nat):Int)).bind fun f=>(fZ f).bind fun b=>if b.2 then ((aG c a.1).bind fun g=>(lu g 0).bind fun h=>(cM 40 a.2 ([(h==43,b.1.1,b.1.2.1,b.1.2.2.1,b.1.2.2.2)])).bind fun i=>some (.nxt (i64.wrap (a.1+1),i))) else (some (.ret (([] :List Yq5),false))))) else (some (.brk (a.1,a.2)))) else (some (.brk (a.1,a.2)))
def fc (a:ByteArray):Option ((List Yq5)×Bool):=
 if a==((⟨#[]⟩:ByteArray)) then (some (([] :List Yq5),true)) else ((im a 32).bind fun c=>aJ (ak (c7 c) aP (0,([] :List Yq5))) (fun d=>some d) (fun b=>(cT b.2).bind fun e=>if e !=a then (some (([] :List Yq5),false)) else (some (b.2,true))))
def fH (b:ByteArray) (a:Int×Int):Option Dq:=
 if decide (a.2<((b.size:Nat):Int)) then ((lu b a.2).bind fun c=>some (.nxt (Int.tmod (i64.wrap ((i64.wrap ((i64.wrap (a.1*257))+(i64.wrap c)))+1)) 9973,i64.wrap (a.2+1)))) else (some (.brk (a.1,a.2)))
def fS (a:ByteArray):Option Int:=
 aJ (ak (fH a) aP (1,0)) (fun b=>some b) (fun c=>some c.1)
def eH (b:Int) (a:List Yq5):Option ByteArray:=
 (bV b 1 999).bind fun e=>if e then (if decide ((a.length:Int)>0) then ((cT a).bind fun f=>if f==((⟨#[]⟩:ByteArray)) then (some ((⟨#[]⟩:ByteArray))) else ((bW b).bind fun g=>(mU g (⟨#[59]⟩)).bind fun h=>(cT a).bind fun i=>(mU h i).bind fun j=>(mU j (⟨#[59]⟩)).bind fun c=>(fS c).bind fun k=>(bW k).bind fun l=>(mU c l).bind fun m=>(mU m (⟨#[10]⟩)).bind fun n=>some n)) else ((bW b).bind fun o=>(mU o (⟨#[59]⟩)).bind fun p=>(cT a).bind fun q=>(mU p q).bind fun r=>(mU r (⟨#[59]⟩)).bind fun d=>(fS d).bind fun s=>(bW s).bind fun t=>(mU d t).bind fun u=>(mU u (⟨#[10]⟩)).bind fun v=>some v)) else (some ((⟨#[]⟩:ByteArray)))
def jF (d:ByteArray):Option (Int×((List (Bool×Yq1)))×Bool):=
 (im d 59).bind fun a=>if (a.length:Int) !=3 then (some (0,[],false)) else ((aG a 0).bind fun e=>(fR e).bind fun b=>(aG a 1).bind fun f=>(fc f).bind fun c=>if b.2 then (if c.2 then ((eH b.1 c.1).bind fun g=>if g !=d then (some (0,[],false)) else (some (b.1,c.1,true))) else (some (0,[],false))) else (some (0,[],false)))
def bg (c:ByteArray) (a:(List Int)×(List (List Yq5))×Int×Int):Option (Out ((List Int)×(List (List Yq5))×Int) ((List Int)×(List (List Yq5))×Int×Int)):=
 if decide (a.2.2.2<((c.size:Nat):Int)) then (if decide (((c.size:Nat):Int)<=4000) then (Is (S:=(List Int)×(List (List Yq5))×Int) ((lu c a.2.2.2).bind fun e=>if e !=10 then (some (.inr (a.1,a.2.1,a.2.2.1))) else ((sg c a.2.2.1 (i64.wrap (a.2.2.2+1))).bind fun f=>(jF f).bind fun b=>if b.2.2 then (if decide ((a.1.length:Int)>0) then ((aG a.1 (i64.wrap ((a.1.length:Int) - 1))).bind fun g=>if b.1 !=(i64.wrap (g+1)) then (some (.inl (.ret (a.1,a.2.1,a.2.2.1)))) else ((cM 8 a.1 ([b.1])).bind fun h=>(cM 24 a.2.1 ([b.2.1])).bind fun i=>some (.inr (h,i,i64.wrap (a.2.2.2+1))))) else ((cM 8 a.1 ([b.1])).bind fun j=>(cM 24 a.2.1 ([b.2.1])).bind fun k=>some (.inr (j,k,i64.wrap (a.2.2.2+1))))) else (some (.inl (.ret (a.1,a.2.1,a.2.2.1)))))) (fun d=>some (.nxt (d.1,d.2.1,d.2.2,i64.wrap (a.2.2.2+1))))) else (some (.brk (a.1,a.2.1,a.2.2.1,a.2.2.2)))) else (some (.brk (a.1,a.2.1,a.2.2.1,a.2.2.2)))
def m_s_ScanLog (b:ByteArray):Option ((List Int)×(List (List Yq5))×Int):=
 aJ (ak (bg b) aP (([] :List Int),([] :List (List Yq5)),0,0)) (fun c=>some c) (fun a=>some (a.1,a.2.1,a.2.2.1))
def xB (a:(Int×Yq4)×Yq6×Yq7×ByteArray):Option Bool:=
 (m_s_ScanLog a.2.2.2).bind fun b=>if b.2.2==(a.2.2.2.size:Int) then (if decide ((a.2.2.2.size:Int)<=4000) then (if (b.1.length:Int)==0 then (some true) else ((aG b.1 (i64.wrap ((b.1.length:Int) - 1))).bind fun c=>(cD (a.1.1,a.1.2)).bind fun d=>some (c==d))) else (some false)) else (some false)
def iV (a:(Int×Yq4)×Yq6×Yq7×ByteArray):Option Bool:=
 (m_s_IsValidHistory (a.1.1,a.1.2)).bind fun b=>if b then ((dR (a.2.1.1,a.2.1.2)).bind fun c=>if c then ((ve ((a.1.1,a.1.2),(a.2.1.1,a.2.1.2),a.2.2.1,a.2.2.2)).bind fun d=>if d then ((xB ((a.1.1,a.1.2),(a.2.1.1,a.2.1.2),a.2.2.1,a.2.2.2)).bind fun e=>some e) else (some false)) else (some false)) else (some false)
def ju (b:Int×(List Bool)×(List (List Int))) (a:Int×Int×(List Bool)×(List (List Int))):Option (Out Yq2 (Int×Int×(List Bool)×(List (List Int)))):=
 if decide (a.1<(b.2.2.length:Int)) then ((aG b.2.2 a.1).bind fun c=>(cM 8 ([] :List Int) c).bind fun d=>(cM 24 a.2.2.2 ([d])).bind fun e=>some (.nxt (i64.wrap (a.1+1),a.2.1,a.2.2.1,e))) else (some (.brk (a.1,a.2.1,a.2.2.1,a.2.2.2)))
def qH (a:Int×(List Bool)×(List (List Int))):Option Yq2:=
 (cM 1 ([] :List Bool) a.2.1).bind fun c=>aJ (ak (ju a) aP (0,a.1,c,[])) (fun r=>some r) (fun b=>some (b.2.1,b.2.2.1,b.2.2.2))
def dC (a:(List Yq2)×(List Yq3)) (e:Int):Option (Yq2×Bool):=
 (iU (a.1,a.2) e).bind fun d=>(dR (a.1,a.2)).bind fun f=>if f then (if decide (d<0) then (some ((0,[],[]),false)) else ((aG a.2 d).bind fun g=>(aG a.1 g.2.2).bind fun b=>(qH (b.1,b.2.1,b.2.2)).bind fun c=>some ((c.1,c.2.1,c.2.2),true))) else (some ((0,[],[]),false))
def gH (b:Int×(List Bool)×(List (List Int))) (c:Int) (a:Int):Option (Out Bool Int):=
 if decide (a<9) then ((aG b.2.2 c).bind fun d=>(aG d a).bind fun e=>(bV e (-1) (i64.wrap ((b.2.1.length:Int) - 1))).bind fun f=>if f then (some (.nxt (i64.wrap (a+1)))) else (some (.ret false))) else (some (.brk a))
def mb (b:Int×(List Bool)×(List (List Int))) (a:Int):Option (Out Bool Int):=
 if decide (a<(b.2.1.length:Int)) then ((aG b.2.2 a).bind fun c=>if (c.length:Int) !=9 then (some (.ret false)) else (aJ (ak (gH b a) aP 0) (fun r=>some (.ret r)) (fun d=>some (.nxt (i64.wrap (a+1)))))) else (some (.brk a))
def n8 (a:Int×(List Bool)×(List (List Int))):Option Bool:=
 (bV a.1 0 (i64.wrap ((a.2.1.length:Int) - 1))).bind fun b=>if b then (if (a.2.2.length:Int) !=(a.2.1.length:Int) then (some false) else (aJ (ak (mb a) aP 0) (fun r=>some r) (fun c=>some true))) else (some false)
def b8 (a:Int×(List Bool)×(List (List Int))):Option Bool:=
 if decide ((a.2.1.length:Int)<=12) then ((n8 (a.1,a.2.1,a.2.2)).bind fun b=>some b) else (some false)
def iw (b:(List Int)×(List Yq1)) (a:Int×(List Bool)×(List (List Int))) (c:Int) (d:Int):Option Bool:=
 (bC (b.1,b.2)).bind fun e=>if e then ((b8 (a.1,a.2.1,a.2.2)).bind fun f=>if f then ((bV c 0 (i64.wrap ((b.1.length:Int) - 1))).bind fun g=>if g then ((bV d 0 (i64.wrap ((a.2.1.length:Int) - 1))).bind fun h=>some h) else (some false)) else (some false)) else (some false)
def c8 (b:Int×(List Bool)×(List (List Int))) (c:Int) (a:Int×Int):Option Dq:=
 if decide (a.1≥0) then ((chk (0<=a.1)).bind fun _=>if (tn (oK a.2 a.1) 1)==0 then ((chk (0<=a.1)).bind fun _=>(aG b.2.2 a.1).bind fun d=>(aG d (i64.wrap (6+c))).bind fun e=>some (.nxt (e,orI a.2 (xf 1 a.1)))) else (some (.brk (a.1,a.2)))) else (some (.brk (a.1,a.2)))
def cr (a:Int×(List Bool)×(List (List Int))) (b:Int) (c:Int):Option Int:=
 aJ (ak (c8 a c) aP (b,0)) (fun r=>some r) (fun d=>some d.2)
def kJ (b:(List Int)×(List Yq1)) (c:Int) (a:(List (Int×Bool))×Int):Option (Out (List (Int×Bool)) ((List (Int×Bool))×Int)):=
 if decide (a.2<(b.2.length:Int)) then (Option.bind ((Option.bind (((aG b.2 a.2).bind fun e=>if e.2.1==c then ((aG b.2 a.2).bind fun f=>(cM 16 a.1 ([(f.1,false)])).bind fun g=>some g) else (some a.1):Option (List (Int×Bool)))) (fun d=>(aG b.2 a.2).bind fun h=>if h.2.2.1==c then ((aG b.2 a.2).bind fun i=>(cM 16 d ([(i.1,true)])).bind fun j=>some j) else (some d)):Option (List (Int×Bool)))) (fun k=>some (.nxt (k,i64.wrap (a.2+1))))) else (some (.brk (a.1,a.2)))
def pQ (a:(List Int)×(List Yq1)) (b:Int):Option (List (Int×Bool)):=
 aJ (ak (kJ a b) aP (([] :List (Int×Bool)),0)) (fun r=>some r) (fun c=>some c.1)
def mY (b:(List Int)×(List Yq1)) (c:Int) (a:Int):Option (Out Int Int):=
 if decide (a<(b.2.length:Int)) then ((aG b.2 a).bind fun d=>if d.1==c then (some (.ret a)) else (some (.nxt (i64.wrap (a+1))))) else (some (.brk a))
def iW (a:(List Int)×(List Yq1)) (b:Int):Option Int:=
 aJ (ak (mY a b) aP 0) (fun r=>some r) (fun c=>some (-1))
def ga (a:Int×Int×Int×Int) (b:Bool):Option Int:=
 if b then (some (i64.wrap ((i64.wrap (2*a.2.2.2))+1))) else (some (i64.wrap (2*a.2.2.2)))
def n9 (a:Int×Int×Int×Int) (b:Bool):Option Int:=
 if b then (some a.2.1) else (some a.2.2.1)
def ix (d:Int×(List Bool)×(List (List Int))) (e:Int) (f:List (Int×Bool)) (g:(List Yq8)×Int) (b:Int×Int×Int×Int) (a:Int×Int):Option (Out (List Yq8) (Int×Int)):=
 if decide (a.2<(d.2.1.length:Int)) then (Option.bind (((aG d.2.2 a.2).bind fun h=>(aG f g.2).bind fun i=>(ga (b.1,b.2.1,b.2.2.1,b.2.2.2) i.2).bind fun j=>(aG h j).bind fun c=>(chk (0<=a.2)).bind fun _=>if (tn (oK e a.2) 1)==1 then (if decide (c≥0) then ((chk (0<=c)).bind fun _=>some (orI a.1 (xf 1 c))) else (some a.1)) else (some a.1):Option Int)) (fun k=>some (.nxt (k,i64.wrap (a.2+1))))) else (some (.brk (a.1,a.2)))
def iy (f:Int×(List Bool)×(List (List Int))) (c:List (Int×Bool)) (d:(List Yq8)×Int) (b:Int×Int×Int×Int) (g:Int×Int) (a:(List Yq8)×Int):Option (Out (List Yq8) ((List Yq8)×Int)):=
 if decide (a.2<(f.2.1.length:Int)) then (Option.bind (((chk (0<=a.2)).bind fun _=>if (tn (oK g.1 a.2) 1)==1 then ((aG c d.2).bind fun e=>(aG c d.2).bind fun h=>(n9 (b.1,b.2.1,b.2.2.1,b.2.2.2) h.2).bind fun i=>(cM 32 a.1 ([((e.1,e.2),i,a.2)])).bind fun j=>some j) else (some a.1):Option (List Yq8))) (fun k=>some (.nxt (k,i64.wrap (a.2+1))))) else (some (.brk (a.1,a.2)))
def iz (c:(List Int)×(List Yq1)) (d:Int×(List Bool)×(List (List Int))) (f:Int) (b:List (Int×Bool)) (a:(List Yq8)×Int):Option (Out (List Yq8) ((List Yq8)×Int)):=
 if decide (a.2<(b.length:Int)) then ((aG b a.2).bind fun g=>(iW (c.1,c.2) g.1).bind fun h=>(aG c.2 h).bind fun e=>aJ (ak (ix d f b a e) aP (0,0)) (fun r=>some (.ret r)) (fun i=>aJ (ak (iy d b a e i) aP (a.1,0)) (fun r=>some (.ret r)) (fun j=>some (.nxt (j.1,i64.wrap (a.2+1)))))) else (some (.brk (a.1,a.2)))
def mC (a:(List Int)×(List Yq1)) (b:Int×(List Bool)×(List (List Int))) (c:Int) (d:Int):Option (List Yq8):=
 (aG a.1 c).bind fun e=>(cr (b.1,b.2.1,b.2.2) d e).bind fun f=>(pQ (a.1,a.2) c).bind fun g=>aJ (ak (iz a b f g) aP (([] :List Yq8),0)) (fun r=>some r) (fun h=>some h.1)
def iA (b:(List Int)×(List Yq1)) (c:Int×(List Bool)×(List (List Int))) (a:(List Int)×Int):Option PX:=
 if decide (a.2<i64.wrap ((b.1.length:Int)*(c.2.1.length:Int))) then ((cM 8 a.1 ([-1])).bind fun d=>some (.nxt (d,i64.wrap (a.2+1)))) else (some (.brk (a.1,a.2)))
def iB (b:Int×(List Bool)×(List (List Int))) (g:(List Int)×(List Int)×Int) (e:List Yq8) (a:(List Int)×(List Int)×Int):Option (Out (List Int) ((List Int)×(List Int)×Int)):=
 if decide (a.2.2<(e.length:Int)) then (Option.bind (((aG e a.2.2).bind fun c=>(aG e a.2.2).bind fun d=>(aG a.1 (i64.wrap ((i64.wrap (c.2.1*(b.2.1.length:Int)))+d.2.2))).bind fun h=>if decide (h<0) then ((aG a.2.1 g.2.2).bind fun i=>(aG a.1 i).bind fun j=>(aG a.1 (i64.wrap ((i64.wrap (c.2.1*(b.2.1.length:Int)))+d.2.2))).bind fun l=>(cM 8 a.2.1 ([i64.wrap ((i64.wrap (c.2.1*(b.2.1.length:Int)))+d.2.2)])).bind fun k=>some (a.1.set (i64.wrap ((i64.wrap (c.2.1*(b.2.1.length:Int)))+d.2.2)).toNat (i64.wrap (j+1)),k)) else (some (a.1,a.2.1)):Option ((List Int)×(List Int)))) (fun f=>some (.nxt (f.1,f.2,i64.wrap (a.2.2+1))))) else (some (.brk (a.1,a.2.1,a.2.2)))
def iC (c:(List Int)×(List Yq1)) (b:Int×(List Bool)×(List (List Int))) (a:(List Int)×(List Int)×Int):Option (Out (List Int) ((List Int)×(List Int)×Int)):=
 if decide (a.2.2<(a.2.1.length:Int)) then ((aG a.2.1 a.2.2).bind fun e=>(chk ((b.2.1.length:Int)≠0)).bind fun _=>(aG a.2.1 a.2.2).bind fun f=>(chk ((b.2.1.length:Int)≠0)).bind fun _=>(mC (c.1,c.2) (b.1,b.2.1,b.2.2) (CZ e (b.2.1.length:Int)) (Int.tmod f (b.2.1.length:Int))).bind fun g=>aJ (ak (iB b a g) aP (a.1,a.2.1,0)) (fun r=>some (.ret r)) (fun d=>some (.nxt (d.1,d.2.1,i64.wrap (a.2.2+1))))) else (some (.brk (a.1,a.2.1,a.2.2)))
def mD (b:(List Int)×(List Yq1)) (a:Int×(List Bool)×(List (List Int))) (c:Int):Option (List Int):=
 aJ (ak (iA b a) aP (([] :List Int),0)) (fun r=>some r) (fun d=>(aG ([i64.wrap ((i64.wrap (c*(a.2.1.length:Int)))+a.1)]) 0).bind fun e=>(aG d.1 e).bind fun g=>aJ (ak (iC b a) aP (d.1.set e.toNat 0,[i64.wrap ((i64.wrap (c*(a.2.1.length:Int)))+a.1)],0)) (fun r=>some r) (fun f=>some f.1))
def fI (b:Int×(List Bool)×(List (List Int))) (c:Int) (a:Int):Option (Out Bool Int):=
 if decide (a<(b.2.1.length:Int)) then ((chk (0<=a)).bind fun _=>if (tn (oK c a) 1)==1 then ((aG b.2.1 a).bind fun d=>if d then (some (.ret true)) else (some (.nxt (i64.wrap (a+1))))) else (some (.nxt (i64.wrap (a+1))))) else (some (.brk a))
def jv (b:(List Int)×(List Yq1)) (a:Int×(List Bool)×(List (List Int))) (c:Int) (d:Int):Option Bool:=
 (aG b.1 c).bind fun e=>(cr (a.1,a.2.1,a.2.2) d e).bind fun f=>aJ (ak (fI a f) aP 0) (fun r=>some r) (fun g=>some false)
def mE (b:Int) (a:(List Int)×Int):Option PX:=
 if decide (a.2<30) then (Option.bind (((chk (0<=a.2)).bind fun _=>if (tn (oK b a.2) 1)==1 then ((cM 8 a.1 ([a.2])).bind fun c=>some c) else (some a.1):Option (List Int))) (fun d=>some (.nxt (d,i64.wrap (a.2+1))))) else (some (.brk (a.1,a.2)))
def we (a:Int):Option (List Int):=
 aJ (ak (mE a) aP (([] :List Int),0)) (fun r=>some r) (fun b=>some b.1)
def jw (c:(List Int)×(List Yq1)) (b:Int×(List Bool)×(List (List Int))) (d:List Int) (a:Int×Int):Option (Out (List Int) (Int×Int)):=
 if decide (a.2<(d.length:Int)) then (Option.bind (((aG d a.2).bind fun e=>if decide (e≥0) then ((chk ((b.2.1.length:Int)≠0)).bind fun _=>(chk ((b.2.1.length:Int)≠0)).bind fun _=>(jv (c.1,c.2) (b.1,b.2.1,b.2.2) (CZ a.2 (b.2.1.length:Int)) (Int.tmod a.2 (b.2.1.length:Int))).bind fun f=>if f then ((chk ((b.2.1.length:Int)≠0)).bind fun _=>(chk (0<=CZ a.2 (b.2.1.length:Int))).bind fun _=>some (orI a.1 (xf 1 (CZ a.2 (b.2.1.length:Int))))) else (some a.1)) else (some a.1):Option Int)) (fun g=>some (.nxt (g,i64.wrap (a.2+1))))) else (some (.brk (a.1,a.2)))
def oc (b:(List Int)×(List Yq1)) (a:Int×(List Bool)×(List (List Int))) (c:Int):Option (List Int):=
 (mD (b.1,b.2) (a.1,a.2.1,a.2.2) c).bind fun d=>aJ (ak (jw b a d) aP (0,0)) (fun r=>some r) (fun e=>(we e.1).bind fun f=>some f)
def lL (c:Yq9×Int) (b:List Int) (a:Yq9×Int):Option (Out Yq9 (Yq9×Int)):=
 if decide (a.2<(b.length:Int)) then ((aG b a.2).bind fun d=>(cM 16 a.1 ([(c.2,d)])).bind fun e=>some (.nxt (e,i64.wrap (a.2+1)))) else (some (.brk (a.1,a.2)))
def da (c:(List Int)×(List Yq1)) (b:Int×(List Bool)×(List (List Int))) (a:Yq9×Int):Option (Out Yq9 (Yq9×Int)):=
 if decide (a.2<(c.1.length:Int)) then ((iw (c.1,c.2) (b.1,b.2.1,b.2.2) 0 0).bind fun d=>if d then ((oc (c.1,c.2) (b.1,b.2.1,b.2.2) a.2).bind fun e=>aJ (ak (lL a e) aP (a.1,0)) (fun r=>some (.ret r)) (fun f=>some (.nxt (f.1,i64.wrap (a.2+1))))) else (some (.brk (a.1,a.2)))) else (some (.brk (a.1,a.2)))
def gI (a:(List Int)×(List Yq1)) (b:Int×(List Bool)×(List (List Int))):Option Yq9:=
 aJ (ak (da a b) aP (([] :List (Int×Int)),0)) (fun r=>some r) (fun c=>some c.1)
def gC (c:(List Yq2)×(List Yq3)) (a:(List Int)×(List Yq1)) (d:Int):Option (Yq9×Bool):=
 (dC (c.1,c.2) d).bind fun b=>if b.2 then ((bC (a.1,a.2)).bind fun e=>if e then ((gI (a.1,a.2) (b.1.1,b.1.2.1,b.1.2.2)).bind fun f=>some (f,true)) else (some (([] :List (Int×Int)),false))) else (some (([] :List (Int×Int)),false))
def iX (a:(Int×Yq4)×Yq6×Yq7×ByteArray) (d:Int):Option (Yq9×Bool):=
 (iV ((a.1.1,a.1.2),(a.2.1.1,a.2.1.2),a.2.2.1,a.2.2.2)).bind fun e=>if e then ((aG a.1.2 (i64.wrap ((a.1.2.length:Int) - 1))).bind fun b=>(gC (a.2.1.1,a.2.1.2) (b.1,b.2) d).bind fun c=>some (c.1,c.2)) else (some (([] :List (Int×Int)),false))
def nC (b:List Int) (a:(List Int)×Int):Option PX:=
 if decide (a.2<(b.length:Int)) then ((aG b a.2).bind fun c=>(aG a.1 a.2).bind fun d=>some (.nxt (a.1.set a.2.toNat c,i64.wrap (a.2+1)))) else (some (.brk (a.1,a.2)))
def pR (a:List Int):Option (List Int):=
 (mkI 8 (a.length:Int) (0:Int)).bind fun b=>aJ (ak (nC a) aP (b,0)) (fun r=>some r) (fun c=>some c.1)
def tK (a:Int×Int×Int×Int):Option Yq1:=
 some (a.1,a.2.1,a.2.2.1,a.2.2.2)
def mc (d:List Yq1) (a:(List Yq1)×Int):Option (Out (List Yq1) ((List Yq1)×Int)):=
 if decide (a.2<(d.length:Int)) then ((aG d a.2).bind fun b=>(tK (b.1,b.2.1,b.2.2.1,b.2.2.2)).bind fun c=>(aG a.1 a.2).bind fun e=>some (.nxt (a.1.set a.2.toNat (c.1,c.2.1,c.2.2.1,c.2.2.2),i64.wrap (a.2+1)))) else (some (.brk (a.1,a.2)))
def qI (a:List Yq1):Option (List Yq1):=
 (mkI 32 (a.length:Int) ((0,0,0,0):Int×Int×Int×Int)).bind fun b=>aJ (ak (mc a) aP (b,0)) (fun r=>some r) (fun c=>some c.1)
def qJ (a:(List Int)×(List Yq1)):Option Li:=
 (pR a.1).bind fun b=>(qI a.2).bind fun c=>some (b,c)
def kK (b:List Li) (a:Yq4×Int):Option (Out Yq4 (Yq4×Int)):=
 if decide (a.2<(b.length:Int)) then ((aG b a.2).bind fun c=>(qJ (c.1,c.2)).bind fun d=>(aG a.1 a.2).bind fun e=>some (.nxt (a.1.set a.2.toNat (d.1,d.2),i64.wrap (a.2+1)))) else (some (.brk (a.1,a.2)))
def oW (a:List Li):Option Yq4:=
 (mkI 48 (a.length:Int) (([],[]):(List Int)×(List Yq1))).bind fun b=>aJ (ak (kK a) aP (b,0)) (fun r=>some r) (fun c=>some c.1)
def nD (a:Int×Yq4):Option (Int×Yq4):=
 (oW a.2).bind fun b=>some (a.1,b)
def me (b:List Bool) (a:(List Bool)×Int):Option (Out (List Bool) ((List Bool)×Int)):=
 if decide (a.2<(b.length:Int)) then ((aG b a.2).bind fun c=>(aG a.1 a.2).bind fun d=>some (.nxt (a.1.set a.2.toNat c,i64.wrap (a.2+1)))) else (some (.brk (a.1,a.2)))
def qK (a:List Bool):Option (List Bool):=
 (mkI 1 (a.length:Int) (false:Bool)).bind fun b=>aJ (ak (me a) aP (b,0)) (fun r=>some r) (fun c=>some c.1)
def mf (b:List (List Int)) (a:(List (List Int))×Int):Option (Out (List (List Int)) ((List (List Int))×Int)):=
 if decide (a.2<(b.length:Int)) then ((aG b a.2).bind fun c=>(pR c).bind fun d=>(aG a.1 a.2).bind fun e=>some (.nxt (a.1.set a.2.toNat d,i64.wrap (a.2+1)))) else (some (.brk (a.1,a.2)))
def qL (a:List (List Int)):Option (List (List Int)):=
 (mkI 24 (a.length:Int) ([] :List Int)).bind fun b=>aJ (ak (mf a) aP (b,0)) (fun r=>some r) (fun c=>some c.1)
def kL (a:Int×(List Bool)×(List (List Int))):Option Yq2:=
 (qK a.2.1).bind fun b=>(qL a.2.2).bind fun c=>some (a.1,b,c)
def gb (d:List Yq2) (a:(List Yq2)×Int):Option (Out (List Yq2) ((List Yq2)×Int)):=
 if decide (a.2<(d.length:Int)) then ((aG d a.2).bind fun b=>(kL (b.1,b.2.1,b.2.2)).bind fun c=>(aG a.1 a.2).bind fun e=>some (.nxt (a.1.set a.2.toNat (c.1,c.2.1,c.2.2),i64.wrap (a.2+1)))) else (some (.brk (a.1,a.2)))
def jG (a:List Yq2):Option (List Yq2):=
 (mkI 56 (a.length:Int) ((0,[],[]):Int×(List Bool)×(List (List Int)))).bind fun b=>aJ (ak (gb a) aP (b,0)) (fun r=>some r) (fun c=>some c.1)
def qM (a:Int×Int×Int×Int):Option Yq1:=
 some (a.1,a.2.1,a.2.2.1,a.2.2.2)
def kM (d:List Yq1) (a:(List Yq1)×Int):Option (Out (List Yq1) ((List Yq1)×Int)):=
 if decide (a.2<(d.length:Int)) then ((aG d a.2).bind fun b=>(qM (b.1,b.2.1,b.2.2.1,b.2.2.2)).bind fun c=>(aG a.1 a.2).bind fun e=>some (.nxt (a.1.set a.2.toNat (c.1,c.2.1,c.2.2.1,c.2.2.2),i64.wrap (a.2+1)))) else (some (.brk (a.1,a.2)))
def oX (a:List Yq1):Option (List Yq1):=
 (mkI 32 (a.length:Int) ((0,0,0,0):Int×Int×Int×Int)).bind fun b=>aJ (ak (kM a) aP (b,0)) (fun r=>some r) (fun c=>some c.1)
def tL (a:(List Yq1)):Option (List Yq1):=
 (oX a).bind fun b=>some b
def jH (a:Int×((List Yq1))×Int):Option Yq3:=
 (tL a.2.1).bind fun b=>some (a.1,b,a.2.2)
def fp (d:List Yq3) (a:(List Yq3)×Int):Option (Out (List Yq3) ((List Yq3)×Int)):=
 if decide (a.2<(d.length:Int)) then ((aG d a.2).bind fun b=>(jH (b.1,b.2.1,b.2.2)).bind fun c=>(aG a.1 a.2).bind fun e=>some (.nxt (a.1.set a.2.toNat (c.1,c.2.1,c.2.2),i64.wrap (a.2+1)))) else (some (.brk (a.1,a.2)))
def iY (a:List Yq3):Option (List Yq3):=
 (mkI 40 (a.length:Int) ((0,[],0):Int×((List Yq1))×Int)).bind fun b=>aJ (ak (fp a) aP (b,0)) (fun r=>some r) (fun c=>some c.1)
def mg (a:(List Yq2)×(List Yq3)):Option Yq6:=
 (jG a.1).bind fun b=>(iY a.2).bind fun c=>some (b,c)
def jI (a:Int×Int×Int):Option (Int×Int×Int):=
 some (a.1,a.2.1,a.2.2)
def fq (d:List (Int×Int×Int)) (a:Yq7×Int):Option (Out Yq7 (Yq7×Int)):=
 if decide (a.2<(d.length:Int)) then ((aG d a.2).bind fun b=>(jI (b.1,b.2.1,b.2.2)).bind fun c=>(aG a.1 a.2).bind fun e=>some (.nxt (a.1.set a.2.toNat (c.1,c.2.1,c.2.2),i64.wrap (a.2+1)))) else (some (.brk (a.1,a.2)))
def iZ (a:List (Int×Int×Int)):Option Yq7:=
 (mkI 24 (a.length:Int) ((0,0,0):Int×Int×Int)).bind fun b=>aJ (ak (fq a) aP (b,0)) (fun r=>some r) (fun c=>some c.1)
def iD (a:(Int×Yq4)×Yq6×Yq7×ByteArray):Option ((Int×Yq4)×Yq6×Yq7×ByteArray):=
 (nD (a.1.1,a.1.2)).bind fun b=>(mg (a.2.1.1,a.2.1.2)).bind fun c=>(iZ a.2.2.1).bind fun d=>some ((b.1,b.2),(c.1,c.2),d,a.2.2.2)
def bD (a:Int) (b:Int) (c:Int):Option Bool:=
 if decide (a≥b) then (some (decide (a<=c))) else (some false)
def kd (a:Int×Int×Int×Int) (b:Int):Option Bool:=
 (bD a.1 1 99).bind fun c=>if c then ((bD a.2.1 0 (i64.wrap (b - 1))).bind fun d=>if d then ((bD a.2.2.1 0 (i64.wrap (b - 1))).bind fun e=>if e then ((bD a.2.2.2 0 2).bind fun f=>some f) else (some false)) else (some false)) else (some false)
def dS (b:(List Int)×(List Yq1)) (a:Int):Option (Out Bool Int):=
 if decide (a<(b.1.length:Int)) then ((aG b.1 a).bind fun c=>(bD c 0 2).bind fun d=>if d then (some (.nxt (i64.wrap (a+1)))) else (some (.ret false))) else (some (.brk a))
def db (c:(List Int)×(List Yq1)) (a:Int):Option (Out Bool Int):=
 if decide (a<(c.2.length:Int)) then ((aG c.2 a).bind fun b=>(kd (b.1,b.2.1,b.2.2.1,b.2.2.2) (c.1.length:Int)).bind fun d=>if d then (if decide (a>0) then ((aG c.2 (i64.wrap (a - 1))).bind fun e=>if decide (e.1≥b.1) then (some (.ret false)) else (some (.nxt (i64.wrap (a+1))))) else (some (.nxt (i64.wrap (a+1))))) else (some (.ret false))) else (some (.brk a))
def aW (a:(List Int)×(List Yq1)):Option Bool:=
 aJ (ak (dS a) aP 0) (fun r=>some r) (fun c=>aJ (ak (db a) aP 0) (fun r=>some r) (fun d=>(bD (a.1.length:Int) 1 5).bind fun b=>if b then (some (decide ((a.2.length:Int)<=12))) else (some false)))
def cx (b:List Int) (c:List Int) (a:Int):Option (Out Bool Int):=
 if decide (a<(b.length:Int)) then ((aG b a).bind fun d=>(aG c a).bind fun e=>if d !=e then (some (.ret false)) else (some (.nxt (i64.wrap (a+1))))) else (some (.brk a))
def b6 (a:List Int) (b:List Int):Option Bool:=
 if (a.length:Int) !=(b.length:Int) then (some false) else (aJ (ak (cx a b) aP 0) (fun r=>some r) (fun c=>some true))
def eQ (b:Int×Yq4) (a:Int):Option (Out Bool Int):=
 if decide (a<(b.2.length:Int)) then ((aG b.2 a).bind fun c=>(aW (c.1,c.2)).bind fun d=>if d then ((aG b.2 0).bind fun e=>(b6 c.1 e.1).bind fun f=>if f then (some (.nxt (i64.wrap (a+1)))) else (some (.ret false))) else (some (.ret false))) else (some (.brk a))
def m_i_IsValidHistory (a:Int×Yq4):Option Bool:=
 (bD (a.2.length:Int) 1 8).bind fun b=>if b then ((bD a.1 1 (i64.wrap ((i64.wrap (999 - (a.2.length:Int)))+1))).bind fun c=>if c then (aJ (ak (eQ a) aP 0) (fun r=>some r) (fun d=>some true)) else (some false)) else (some false)
def ke (a:Int):Option Bool:=
 (bD a 0 8).bind fun b=>some b
def qN (a:Int×Int×Int×Int):Option Bool:=
 if a.1==3 then ((ke a.2.1).bind fun b=>if b then (if a.2.2.1==0 then (some (a.2.2.2==0)) else (some false)) else (some false)) else (if a.1==7 then (if a.2.1==0 then ((bD a.2.2.1 0 a.2.2.2).bind fun c=>if c then ((bD a.2.2.2 1 3).bind fun d=>some d) else (some false)) else (some false)) else (Option.bind ((if a.1==1 then (some (a.1==1)) else (if a.1==2 then (some (a.1==2)) else (if a.1==4 then (some (a.1==4)) else (if a.1==5 then (some (a.1==5)) else (some (a.1==6))))):Option Bool)) (fun e=>if e then (some ((a.1==a.1)&&((a.2.1==0)&&((a.2.2.1==0)&&((a.2.2.2==0)&&true))))) else (some false))))
def qO (d:List Yq1) (a:(List (Tr Yq1))×Int):Option (Out (Tr Yq1) ((List (Tr Yq1))×Int)):=
 if decide (a.2<(d.length:Int)) then ((aG d a.2).bind fun b=>Option.bind ((Option.bind ((if b.1==4 then (some (b.1==4)) else (some (b.1==5)):Option Bool)) (fun e=>if e then (some 2) else (Option.bind ((if b.1==6 then (some (b.1==6)) else (some (b.1==7)):Option Bool)) (fun f=>if f then (some 1) else (some 0)))):Option Int)) (fun c=>(qN (b.1,b.2.1,b.2.2.1,b.2.2.2)).bind fun g=>if g then (if decide ((i64.wrap ((a.1.length:Int) - c))<0) then (some (.ret Tr.nil)) else ((chk (And (0<=(i64.wrap ((a.1.length:Int) - c))) ((i64.wrap ((a.1.length:Int) - c))<=(a.1.length:Int)))).bind fun _=>(cM 8 ([] :List (Tr Yq1)) (a.1.drop ((i64.wrap ((a.1.length:Int) - c)).toNat))).bind fun h=>(chk (And (0<=(i64.wrap ((a.1.length:Int) - c))) ((i64.wrap ((a.1.length:Int) - c))<=(a.1.length:Int)))).bind fun _=>(cM 8 (a.1.take ((i64.wrap ((a.1.length:Int) - c)).toNat)) ([Tr.node (b.1,b.2.1,b.2.2.1,b.2.2.2) h])).bind fun i=>some (.nxt (i,i64.wrap (a.2+1))))) else (some (.ret Tr.nil)))) else (some (.brk (a.1,a.2)))
def nS (b:List Yq1):Option (Tr Yq1):=
 aJ (ak (qO b) aP (([] :List (Tr Yq1)),0)) (fun c=>some c) (fun a=>if (a.1.length:Int) !=1 then (some Tr.nil) else ((aG a.1 0).bind fun d=>some d))
def tM (a:List Yq1):Option Bool:=
 (nS a).bind fun b=>some (cond.match_1 (fun (c:Bool)=>Bool) (Tr.isNil b) (fun (d:Unit)=>false) (fun (e:Unit)=>true))
def kN (a:(List Yq1)):Option Bool:=
 if decide ((a.length:Int)<=24) then ((tM a).bind fun b=>some b) else (some false)
def de (mrec:(Tr Yq1)->Option Int) (b:Tr Yq1) (c:Yq1×List (Tr Yq1)) (a:Int×Int):Option Dq:=
 if decide (a.2<(c.2.length:Int)) then (Option.bind (((aG c.2 a.2).bind fun d=>(Tr.get b).bind fun j=>(Tr.get b).bind fun e=>if e.1.1==7 then ((mrec d).bind fun f=>(Tr.get b).bind fun k=>(Tr.get b).bind fun g=>some (i64.wrap (a.1+(i64.wrap ((i64.wrap (f+3))*g.1.2.2.2))))) else ((mrec d).bind fun h=>some (i64.wrap (a.1+h))):Option Int)) (fun i=>some (.nxt (i,i64.wrap (a.2+1))))) else (some (.brk (a.1,a.2)))
def ct:Nat->(Tr Yq1)->Option Int
 | 0,_=>none
 | n+1,p0x =>
  (Tr.get p0x).bind fun d=>(Tr.get p0x).bind fun a=>aJ (ak (de (ct n) p0x a) aP (1,0)) (fun b=>some b) (fun c=>some (Min.min c.1 100000))
def ES (a:Int):Option (Tr Yq1):=
 some (Tr.node (a,0,0,0) ([] :List (Tr Yq1)))
def mF:Nat->(Tr Yq1)->Int->Int->Option (Tr Yq1)
 | 0,_,_,_=>none
 | n+1,p0x,p1low,p2high =>
  if p2high==0 then ((ES 2).bind fun b=>some b) else (((mF n) p0x (Max.max 0 (i64.wrap (p1low - 1))) (i64.wrap (p2high - 1))).bind fun a=>if decide (p1low>0) then (some (Tr.node (4,0,0,0) ([p0x,a]))) else ((ES 2).bind fun c=>some (Tr.node (5,0,0,0) ([Tr.node (4,0,0,0) ([p0x,a]),c]))))
def dD (mrec:(Tr Yq1)->Option (Tr Yq1)) (b:Yq1×List (Tr Yq1)) (a:Int×Int×Int×Int×Int×List (Tr Yq1)):Option (Out (Tr Yq1) (Int×Int×Int×Int×Int×List (Tr Yq1))):=
 if decide (a.1<(b.2.length:Int)) then ((aG b.2 a.1).bind fun c=>(mrec c).bind fun d=>(cM 8 a.2.2.2.2.2 ([d])).bind fun e=>some (.nxt (i64.wrap (a.1+1),a.2.1,a.2.2.1,a.2.2.2.1,a.2.2.2.2.1,e))) else (some (.brk (a.1,a.2.1,a.2.2.1,a.2.2.2.1,a.2.2.2.2.1,a.2.2.2.2.2)))
def bS:Nat->(Tr Yq1)->Option (Tr Yq1)
 | 0,_=>none
 | n+1,p0x =>
  (Tr.get p0x).bind fun l=>(Tr.get p0x).bind fun c=>if c.1.1==7 then ((Tr.get p0x).bind fun m=>(Tr.get p0x).bind fun d=>(aG d.2 0).bind fun e=>((bS n) e).bind fun f=>(Tr.get p0x).bind fun o=>(Tr.get p0x).bind fun g=>(Tr.get p0x).bind fun p=>(Tr.get p0x).bind fun h=>(mF gx f g.1.2.2.1 h.1.2.2.2).bind fun i=>some i) else ((Tr.get p0x).bind fun q=>(Tr.get p0x).bind fun b=>(Tr.get p0x).bind fun r=>(Tr.get p0x).bind fun j=>aJ (ak (dD (bS n) j) aP (0,b.1.1,b.1.2.1,b.1.2.2.1,b.1.2.2.2,([] :List (Tr Yq1)))) (fun k=>some k) (fun a=>some (Tr.node (a.2.1,a.2.2.1,a.2.2.2.1,a.2.2.2.2.1) a.2.2.2.2.2)))
def cC (mrec:(Tr Yq1)->(List Yq1)->Option (List Yq1)) (b:Yq1×List (Tr Yq1)) (a:Int×List Yq1):Option (Out (List Yq1) (Int×List Yq1)):=
 if decide (a.1<(b.2.length:Int)) then ((aG b.2 a.1).bind fun c=>(mrec c a.2).bind fun d=>some (.nxt (i64.wrap (a.1+1),d))) else (some (.brk (a.1,a.2)))
def bM:Nat->(Tr Yq1)->(List Yq1)->Option (List Yq1)
 | 0,_,_=>none
 | n+1,p0x,p1out =>
  (Tr.get p0x).bind fun f=>(Tr.get p0x).bind fun b=>aJ (ak (cC (bM n) b) aP (0,p1out)) (fun c=>some c) (fun d=>(Tr.get p0x).bind fun g=>(Tr.get p0x).bind fun a=>(cM 32 d.2 ([(a.1.1,a.1.2.1,a.1.2.2.1,a.1.2.2.2)])).bind fun e=>some e)
def qP (a:Tr Yq1):Option (List Yq1):=
 (bM gx a ([] :List Yq1)).bind fun b=>some b
def mi (a:List Yq1):Option ((List Yq1)×Bool):=
 (kN a).bind fun d=>if d then ((nS a).bind fun b=>(ct gx b).bind fun e=>if decide (e>5000) then (some (([] :List Yq1),false)) else ((bS gx b).bind fun f=>(qP f).bind fun c=>if decide ((c.length:Int)>400) then (some (([] :List Yq1),false)) else (some (c,true)))) else (some (([] :List Yq1),false))
def cU (b:(List Int)×Int×Int×(List Int)×Bool) (c:Int) (d:Int) (a:Int×List Int):Option (Out RF (Int×List Int)):=
 if decide (a.1<(b.2.2.2.1.length:Int)) then (Option.bind (((chk (0<=a.1)).bind fun _=>if (tn (oK c a.1) 1)==1 then ((aG a.2 a.1).bind fun e=>(aG a.2 a.1).bind fun g=>some (a.2.set a.1.toNat (orI e d))) else (some a.2):Option (List Int))) (fun f=>some (.nxt (i64.wrap (a.1+1),f)))) else (some (.brk (a.1,a.2)))
def dH (a:(List Int)×Int×Int×(List Int)×Bool) (b:Int) (c:Int):Option RF:=
 aJ (ak (cU a b c) aP (0,a.2.2.2.1)) (fun d=>some d) (fun e=>some (a.1,a.2.1,a.2.2.1,e.2,a.2.2.2.2))
def bm:Nat->RF->(Tr Yq1)->Option ((Int×Int×Bool)×(List Int)×Int×Int×(List Int)×Bool)
 | 0,_,_=>none
 | n+1,p0,p1 =>
  (Tr.get p1).bind fun A=>(Tr.get p1).bind fun i=>if i.1.1==2 then (some ((0,0,true),p0.1,p0.2.1,p0.2.2.1,p0.2.2.2.1,p0.2.2.2.2)) else (if i.1.1==3 then ((Tr.get p1).bind fun B=>(Tr.get p1).bind fun m=>(cM 8 p0.1 ([m.1.2.1])).bind fun o=>(cM 8 p0.2.2.2.1 ([0])).bind fun p=>some ((xf 1 (p0.1.length:Int),xf 1 (p0.1.length:Int),false),o,p0.2.1,p0.2.2.1,p,p0.2.2.2.2)) else (if i.1.1==5 then ((Tr.get p1).bind fun C=>(Tr.get p1).bind fun q=>(aG q.2 0).bind fun r=>((bm n) (p0.1,p0.2.1,p0.2.2.1,p0.2.2.2.1,p0.2.2.2.2) r).bind fun f=>(Tr.get p1).bind fun D=>(Tr.get p1).bind fun s=>(aG s.2 1).bind fun t=>((bm n) f.2 t).bind fun b=>if f.1.2.2 then (some ((orI f.1.1 b.1.1,orI f.1.2.1 b.1.2.1,true),b.2.1,b.2.2.1,b.2.2.2.1,b.2.2.2.2.1,b.2.2.2.2.2)) else (some ((orI f.1.1 b.1.1,orI f.1.2.1 b.1.2.1,b.1.2.2),b.2.1,b.2.2.1,b.2.2.2.1,b.2.2.2.2.1,b.2.2.2.2.2))) else (if i.1.1==4 then ((Tr.get p1).bind fun E=>(Tr.get p1).bind fun u=>(aG u.2 0).bind fun v=>((bm n) (p0.1,p0.2.1,p0.2.2.1,p0.2.2.2.1,p0.2.2.2.2) v).bind fun c=>(Tr.get p1).bind fun F=>(Tr.get p1).bind fun w=>(aG w.2 1).bind fun x=>((bm n) c.2 x).bind fun a=>(dH (a.2.1,a.2.2.1,a.2.2.2.1,a.2.2.2.2.1,a.2.2.2.2.2) c.1.2.1 a.1.1).bind fun d=>if c.1.2.2 then (Option.bind ((if c.1.2.2 then (some (orI c.1.1 a.1.1,a.1.2.1,a.1.2.2)) else (some (c.1.1,a.1.2.1,a.1.2.2)):Option (Int×Int×Bool))) (fun g=>Option.bind ((if a.1.2.2 then (some (g.1,orI g.2.1 c.1.2.1,g.2.2)) else (some (g.1,g.2.1,g.2.2)):Option (Int×Int×Bool))) (fun k=>some ((k.1,k.2.1,k.2.2),d.1,d.2.1,d.2.2.1,d.2.2.2.1,d.2.2.2.2)))) else (Option.bind ((if c.1.2.2 then (some (orI c.1.1 a.1.1,a.1.2.1,false)) else (some (c.1.1,a.1.2.1,false)):Option (Int×Int×Bool))) (fun h=>Option.bind ((if a.1.2.2 then (some (h.1,orI h.2.1 c.1.2.1,h.2.2)) else (some (h.1,h.2.1,h.2.2)):Option (Int×Int×Bool))) (fun l=>some ((l.1,l.2.1,l.2.2),d.1,d.2.1,d.2.2.1,d.2.2.2.1,d.2.2.2.2))))) else (if i.1.1==6 then ((Tr.get p1).bind fun G=>(Tr.get p1).bind fun y=>(aG y.2 0).bind fun z=>((bm n) (p0.1,p0.2.1,p0.2.2.1,p0.2.2.2.1,p0.2.2.2.2) z).bind fun e=>(dH (e.2.1,e.2.2.1,e.2.2.2.1,e.2.2.2.2.1,e.2.2.2.2.2) e.1.2.1 e.1.1).bind fun j=>some ((e.1.1,e.1.2.1,true),j.1,j.2.1,j.2.2.1,j.2.2.2.1,j.2.2.2.2)) else (some ((0,0,false),p0.1,p0.2.1,p0.2.2.1,p0.2.2.2.1,p0.2.2.2.2))))))
def du (b:(List Yq1)×Bool) (a:Int×Int):Option (Out (RF×Bool) (Int×Int)):=
 if decide (a.2<(b.1.length:Int)) then (Option.bind (((aG b.1 a.2).bind fun c=>if c.1==3 then (some (i64.wrap (a.1+1))) else (some a.1):Option Int)) (fun d=>some (.nxt (d,i64.wrap (a.2+1))))) else (some (.brk (a.1,a.2)))
def gP (c:List Yq1):Option (RF×Bool):=
 (mi c).bind fun b=>if b.2 then (aJ (ak (du b) aP (0,0)) (fun d=>some d) (fun e=>if decide (e.1>20) then (some ((([] :List Int),0,0,([] :List Int),false),false)) else ((nS b.1).bind fun f=>(bm gx (([] :List Int),0,0,([] :List Int),false) f).bind fun a=>some ((a.2.1,a.1.1,a.1.2.1,a.2.2.2.2.1,a.1.2.2),true)))) else (some ((([] :List Int),0,0,([] :List Int),false),false))
def dU (e:Int->Int->Option (Int×Bool)) (f:(List Int)×Yq9×Int×Int×(List Bool)×(List (List Int))) (a:(List Int)×Yq9×(List Int)×Int):Option (Out (Yq2×Bool) ((List Int)×Yq9×(List Int)×Int)):=
 if decide (a.2.2.2<9) then (Option.bind (((aG a.1 f.2.2.1).bind fun g=>(e g a.2.2.2).bind fun b=>if b.2 then ((chk (iOk b.1=true)).bind fun _=>Option.bind ((if (lkM a.2.1 b.1).isSome then (some (a.1,a.2.1,(lkM a.2.1 b.1).getD 0)) else ((RB a.2.1 iOk iOk b.1 (a.1.length:Int)).bind fun m37=>(cM 8 a.1 ([b.1])).bind fun h=>some (h,m37,(a.1.length:Int))):Option ((List Int)×Yq9×Int))) (fun c=>(cM 8 a.2.2.1 ([c.2.2])).bind fun i=>some (c.1,c.2.1,i))) else ((cM 8 a.2.2.1 ([-1])).bind fun j=>some (a.1,a.2.1,j)):Option ((List Int)×Yq9×(List Int)))) (fun d=>some (.nxt (d.1,d.2.1,d.2.2,i64.wrap (a.2.2.2+1))))) else (some (.brk (a.1,a.2.1,a.2.2.1,a.2.2.2)))
def bT (c:Int) (d:Int->Option Bool) (e:Int->Int->Option (Int×Bool)) (a:(List Int)×Yq9×Int×Int×(List Bool)×(List (List Int))):Option (Out (Yq2×Bool) ((List Int)×Yq9×Int×Int×(List Bool)×(List (List Int)))):=
 if decide (a.2.2.1<(a.1.length:Int)) then (aJ (ak (dU e a) aP (a.1,a.2.1,([] :List Int),0)) (fun r=>some (.ret r)) (fun b=>if decide ((b.1.length:Int)>c) then (some (.ret ((0,[],[]),false))) else ((aG b.1 a.2.2.1).bind fun f=>(d f).bind fun g=>(cM 1 a.2.2.2.2.1 ([g])).bind fun h=>(cM 24 a.2.2.2.2.2 ([b.2.2.1])).bind fun i=>some (.nxt (b.1,b.2.1,i64.wrap (a.2.2.1+1),a.2.2.2.1,h,i))))) else (some (.brk (a.1,a.2.1,a.2.2.1,a.2.2.2.1,a.2.2.2.2.1,a.2.2.2.2.2)))
def eI (b:Int) (c:Int) (d:Int->Option Bool) (e:Int->Int->Option (Int×Bool)):Option (Yq2×Bool):=
 (RB ([] :List (Int×Int)) iOk iOk b 0).bind fun m1=>aJ (ak (bT c d e) aP ([b],m1,0,0,[],[])) (fun r=>some r) (fun a=>some ((a.2.2.2.1,a.2.2.2.2.1,a.2.2.2.2.2),true))
def dw (a:(List Int)×Int×Int×(List Int)×Bool) (b:Int):Option Bool:=
 if (tn b 1)==1 then (if a.2.2.2.2 then (some true) else (some ((tn (oK b 1) a.2.2.1) !=0))) else (some ((tn (oK b 1) a.2.2.1) !=0))
def cZ (b:(List Int)×Int×Int×(List Int)×Bool) (c:Int) (a:Int×Int):Option Dq:=
 if decide (a.2<(b.2.2.2.1.length:Int)) then (Option.bind (((aG b.2.2.2.1 a.2).bind fun d=>(chk (0<=i64.wrap (a.2+1))).bind fun _=>if (tn (oK c (i64.wrap (a.2+1))) 1)==1 then (some (orI a.1 d)) else (some a.1):Option Int)) (fun e=>some (.nxt (e,i64.wrap (a.2+1))))) else (some (.brk (a.1,a.2)))
def c6 (b:(List Int)×Int×Int×(List Int)×Bool) (c:Int) (d:Int×Int) (a:Int×Int):Option Dq:=
 if decide (a.2<(b.1.length:Int)) then (Option.bind (((aG b.1 a.2).bind fun e=>if e==c then ((chk (0<=a.2)).bind fun _=>if (tn (oK d.1 a.2) 1)==1 then ((chk (0<=i64.wrap (a.2+1))).bind fun _=>some (orI a.1 (xf 1 (i64.wrap (a.2+1))))) else (some a.1)) else (some a.1):Option Int)) (fun f=>some (.nxt (f,i64.wrap (a.2+1))))) else (some (.brk (a.1,a.2)))
def gf (a:(List Int)×Int×Int×(List Int)×Bool) (b:Int) (c:Int):Option Int:=
 Option.bind ((if (tn b 1)==1 then (some a.2.1) else (some 0):Option Int)) (fun d=>aJ (ak (cZ a b) aP (d,0)) (fun r=>some r) (fun e=>aJ (ak (c6 a c e) aP (0,0)) (fun r=>some r) (fun f=>some f.1)))
def df (b:Int) (c:Int) (q0:(List Int)×Int×Int×(List Int)×Bool):Option (Int×Bool):=
 (gf (q0.1,q0.2.1,q0.2.2.1,q0.2.2.2.1,q0.2.2.2.2) b c).bind fun a=>some (a,a !=0)
def iE (a:(List Int)×Int×Int×(List Int)×Bool) (c:Int):Option (Yq2×Bool):=
 (eI 1 c (fun a0=>dw (a.1,a.2.1,a.2.2.1,a.2.2.2.1,a.2.2.2.2) a0) (fun a0 a1=>df a0 a1 (a.1,a.2.1,a.2.2.1,a.2.2.2.1,a.2.2.2.2))).bind fun b=>some ((b.1.1,b.1.2.1,b.1.2.2),b.2)
def dx (b:Bool×Int×List Bool) (c:List Int) (a:Bool×Int×List Bool):Option (Out (List Bool) (Bool×Int×List Bool)):=
 if decide (a.2.1<(c.length:Int)) then (Option.bind (((aG c a.2.1).bind fun d=>if decide (d≥0) then ((aG a.2.2 d).bind fun f=>if f then ((aG a.2.2 b.2.1).bind fun g=>if g then (some (a.1,a.2.2)) else ((aG a.2.2 b.2.1).bind fun h=>some (true,a.2.2.set b.2.1.toNat true))) else (some (a.1,a.2.2))) else (some (a.1,a.2.2)):Option (Bool×List Bool))) (fun e=>some (.nxt (e.1,i64.wrap (a.2.1+1),e.2)))) else (some (.brk (a.1,a.2.1,a.2.2)))
def dy (b:Int×(List Bool)×List (List Int)) (a:Bool×Int×List Bool):Option (Out (List Bool) (Bool×Int×List Bool)):=
 if decide (a.2.1<(b.2.2.length:Int)) then ((aG b.2.2 a.2.1).bind fun d=>aJ (ak (dx a d) aP (a.1,0,a.2.2)) (fun e=>some (.ret e)) (fun c=>some (.nxt (c.1,i64.wrap (a.2.1+1),c.2.2)))) else (some (.brk (a.1,a.2.1,a.2.2)))
def iF (c:Int×(List Bool)×List (List Int)) (a:Bool×List Bool):Option (Out (List Bool) (Bool×List Bool)):=
 if a.1 then (aJ (ak (dy c) aP (false,0,a.2)) (fun d=>some (.ret d)) (fun b=>some (.nxt (b.1,b.2.2)))) else (some (.brk (a.1,a.2)))
def eR (a:Int×(List Bool)×List (List Int)):Option (List Bool):=
 (cM 1 ([] :List Bool) a.2.1).bind fun b=>aJ (ak (iF a) aP (true,b)) (fun c=>some c) (fun d=>some d.2)
def b9 (b:List (List Int)) (c:(List Int)->Option Bool) (a:Int):Option (Out Int Int):=
 if decide (a<(b.length:Int)) then ((aG b a).bind fun d=>(c d).bind fun e=>if e then (some (.ret a)) else (some (.nxt (i64.wrap (a+1))))) else (some (.brk a))
def bO (a:List (List Int)) (b:(List Int)->Option Bool):Option Int:=
 aJ (ak (b9 a b) aP 0) (fun r=>some r) (fun c=>some (-1))
def gM (a:List Int) (q0:List Int):Option Bool:=
 (b6 a q0).bind fun b=>some b
def cV (d:List Int) (c:List Int) (a:Int×(List Int)):Option (Out ((List Int)×Int) (Int×(List Int))):=
 if decide (a.1<(c.length:Int)) then ((aG c a.1).bind fun b=>Option.bind ((if decide (b≥0) then ((aG d b).bind fun e=>some e) else (some b):Option Int)) (fun f=>(cM 8 a.2 ([f])).bind fun g=>some (.nxt (i64.wrap (a.1+1),g)))) else (some (.brk (a.1,a.2)))
def dK (h:Int×(List Bool)×(List (List Int))) (b:List Int) (a:(List (List Int))×(List Int)×Int):Option (Out ((List Int)×Int) ((List (List Int))×(List Int)×Int)):=
 if decide (a.2.2<(b.length:Int)) then (Option.bind (((aG b a.2.2).bind fun c=>if decide (c<0) then ((cM 8 a.2.1 ([-1])).bind fun i=>some (a.1,i)) else ((aG h.2.2 a.2.2).bind fun j=>aJ (ak (cV b j) aP (0,[c])) (fun _=>none) (fun d=>(bO a.1 (fun a0=>gM a0 d.2)).bind fun e=>Option.bind ((if decide (e<0) then ((cM 24 a.1 ([d.2])).bind fun k=>some (k,(a.1.length:Int))) else (some (a.1,e)):Option ((List (List Int))×Int))) (fun f=>(cM 8 a.2.1 ([f.2])).bind fun l=>some (f.1,l)))):Option ((List (List Int))×(List Int)))) (fun g=>some (.nxt (g.1,g.2,i64.wrap (a.2.2+1))))) else (some (.brk (a.1,a.2.1,a.2.2)))
def dI (b:Int×(List Bool)×(List (List Int))) (c:List Int):Option ((List Int)×Int):=
 aJ (ak (dK b c) aP (([] :List (List Int)),([] :List Int),0)) (fun r=>some r) (fun a=>some (a.2.1,(a.1.length:Int)))
def cE (c:Int×(List Bool)×(List (List Int))) (b:List Bool) (a:(List Int)×Int):Option PX:=
 if decide (a.2<(b.length:Int)) then (Option.bind (((aG b a.2).bind fun d=>if d then ((aG c.2.1 a.2).bind fun e=>if e then ((cM 8 a.1 ([1])).bind fun f=>some f) else ((cM 8 a.1 ([0])).bind fun g=>some g)) else ((cM 8 a.1 ([-1])).bind fun h=>some h):Option (List Int))) (fun i=>some (.nxt (i,i64.wrap (a.2+1))))) else (some (.brk (a.1,a.2)))
def fJ (b:Int×(List Bool)×(List (List Int))) (c:(List Int)×Int):Option PX:=
 (dI (b.1,b.2.1,b.2.2) c.1).bind fun a=>if a.2==c.2 then (some (.ret a.1)) else (some (.nxt (a.1,a.2)))
def dz (a:Int×(List Bool)×(List (List Int))):Option (List Int):=
 (eR (a.1,a.2.1,a.2.2)).bind fun b=>aJ (ak (cE a b) aP (([] :List Int),0)) (fun r=>some r) (fun c=>aJ (ak (fJ a) aP (c.1,-1)) (fun r=>some r) (fun d=>none))
def vf (a:Int) (b:Int):Option (Int×Int):=
 some (IntKind.u32.wrap (oK (IntKind.u64.wrap ((IntKind.u64.wrap a)*(IntKind.u64.wrap b))) 32),IntKind.u32.wrap (IntKind.u64.wrap ((IntKind.u64.wrap a)*(IntKind.u64.wrap b))))
def od (a:Int) (b:Int):Option (Int×Int):=
 some (IntKind.u64.wrap ((IntKind.u64.wrap ((IntKind.u64.wrap ((oK a 32)*(oK b 32)))+(oK (IntKind.u64.wrap ((IntKind.u64.wrap ((oK a 32)*(RC b 4294967295)))+(oK (IntKind.u64.wrap ((RC a 4294967295)*(RC b 4294967295))) 32))) 32)))+(oK (IntKind.u64.wrap ((RC (IntKind.u64.wrap ((IntKind.u64.wrap ((oK a 32)*(RC b 4294967295)))+(oK (IntKind.u64.wrap ((RC a 4294967295)*(RC b 4294967295))) 32))) 4294967295)+(IntKind.u64.wrap ((RC a 4294967295)*(oK b 32))))) 32)),IntKind.u64.wrap (a*b))
def pS (b:Int) (c:Int):Option (Int×Int):=
 (od b c).bind fun a=>some (a.1,a.2)
def mG (a:Int×List Int):Option (Out (List Int) (Int×List Int)):=
 if decide (a.1<(a.2.length:Int)) then ((chk (And (0<=a.1) (a.1<=(a.2.length:Int)))).bind fun _=>(chk (And (0<=a.1) (a.1<=(a.2.length:Int)))).bind fun _=>(chk (And (0<=a.1) (a.1<=(a.2.length:Int)))).bind fun _=>(chk (And (0<=a.1) (a.1<=(a.2.length:Int)))).bind fun _=>some (.nxt (i64.wrap (a.1+((Min.min ((a.2.take a.1.toNat).length) (a.2.length - a.1.toNat):Nat):Int)),FZ a.2 a.1.toNat (a.2.take a.1.toNat)))) else (some (.brk (a.1,a.2)))
def bU (a:List Int) (c:Int):Option (List Int):=
 if decide (c<0) then (none) else ((pS (IntKind.u64.wrap (a.length:Int)) (IntKind.u64.wrap c)).bind fun b=>if decide (b.1>0) then (none) else (if decide (b.2>9223372036854775807) then (none) else ((mkI 8 (i64.wrap b.2) 0).bind fun d=>aJ (ak (mG) aP (((Min.min a.length (d.length - 0):Nat):Int),FZ d 0 a)) (fun e=>some e) (fun f=>some f.2))))
def vh:Option Yq2:=
 (bU ([-1]) 9).bind fun a=>some (0,[false],[a])
def dG (b:List Int) (c:Int) (a:Int):Option (Out Int Int):=
 if decide (a<(b.length:Int)) then ((aG b a).bind fun d=>if c==d then (some (.ret a)) else (some (.nxt (i64.wrap (a+1))))) else (some (.brk a))
def eD (a:List Int) (b:Int):Option Int:=
 aJ (ak (dG a b) aP 0) (fun r=>some r) (fun c=>some (-1))
def aY (a:Int) (q0:List Int):Option Int:=
 (eD q0 a).bind fun b=>some b
def cF (a:Int) (q0:Int×(List Bool)×(List (List Int))) (q1:Int->Option Int):Option Bool:=
 (q1 a).bind fun b=>(aG q0.2.1 b).bind fun c=>some c
def bH (c:Int×(List Bool)×(List (List Int))) (a:Int) (b:Int):Option Int:=
 if decide (a<0) then (some (-1)) else ((ke b).bind fun d=>if d then ((aG c.2.2 a).bind fun e=>(aG e b).bind fun f=>some f) else (some (-1)))
def cG (b:Int) (c:Int) (q0:Int×(List Bool)×(List (List Int))) (q1:Int->Option Int) (q2:List Int):Option (Int×Bool):=
 (q1 b).bind fun d=>(bH (q0.1,q0.2.1,q0.2.2) d c).bind fun a=>if decide (a<0) then (some (0,false)) else ((aG q2 a).bind fun e=>if decide (e<0) then (some (0,false)) else ((aG q2 a).bind fun f=>some (f,true)))
def cm (a:Int×(List Bool)×(List (List Int))):Option Yq2:=
 (dz (a.1,a.2.1,a.2.2)).bind fun b=>(aG b a.1).bind fun e=>if decide (e<0) then ((vh).bind fun c=>some (c.1,c.2.1,c.2.2)) else ((aG b a.1).bind fun f=>(eI f (b.length:Int) (fun a0=>cF a0 (a.1,a.2.1,a.2.2) (fun a0=>aY a0 b)) (fun a0 a1=>cG a0 a1 (a.1,a.2.1,a.2.2) (fun a0=>aY a0 b) b)).bind fun d=>some (d.1.1,d.1.2.1,d.1.2.2))
def A1 (b:Int×(List Bool)×(List (List Int))):Option (Yq2×Bool):=
 (cm (b.1,b.2.1,b.2.2)).bind fun a=>if decide ((a.2.1.length:Int)>12) then (some ((0,[],[]),false)) else (some ((a.1,a.2.1,a.2.2),true))
def iG (d:(List Yq1)):Option (Yq2×Bool):=
 (gP d).bind fun a=>if a.2 then ((iE (a.1.1,a.1.2.1,a.1.2.2.1,a.1.2.2.2.1,a.1.2.2.2.2) 200).bind fun b=>if b.2 then ((A1 (b.1.1,b.1.2.1,b.1.2.2)).bind fun c=>some ((c.1.1,c.1.2.1,c.1.2.2),c.2)) else (some ((0,[],[]),false))) else (some ((0,[],[]),false))
def bE (c:List Yq2) (d:Yq2->Option Bool) (a:Int):Option (Out Int Int):=
 if decide (a<(c.length:Int)) then ((aG c a).bind fun b=>(d (b.1,b.2.1,b.2.2)).bind fun e=>if e then (some (.ret a)) else (some (.nxt (i64.wrap (a+1))))) else (some (.brk a))
def bh (a:List Yq2) (b:Yq2->Option Bool):Option Int:=
 aJ (ak (bE a b) aP 0) (fun r=>some r) (fun c=>some (-1))
def bX (b:List Bool) (c:List Bool) (a:Int):Option (Out Bool Int):=
 if decide (a<(b.length:Int)) then ((aG b a).bind fun d=>(aG c a).bind fun e=>if d !=e then (some (.ret false)) else (some (.nxt (i64.wrap (a+1))))) else (some (.brk a))
def dL (a:List Bool) (b:List Bool):Option Bool:=
 if (a.length:Int) !=(b.length:Int) then (some false) else (aJ (ak (bX a b) aP 0) (fun r=>some r) (fun c=>some true))
def aV (b:List (List Int)) (c:List (List Int)) (d:(List Int)->(List Int)->Option Bool) (a:Int):Option (Out Bool Int):=
 if decide (a<(b.length:Int)) then ((aG b a).bind fun e=>(aG c a).bind fun f=>(d e f).bind fun g=>if g then (some (.nxt (i64.wrap (a+1)))) else (some (.ret false))) else (some (.brk a))
def bu (a:List (List Int)) (b:List (List Int)) (c:(List Int)->(List Int)->Option Bool):Option Bool:=
 if (a.length:Int) !=(b.length:Int) then (some false) else (aJ (ak (aV a b c) aP 0) (fun r=>some r) (fun d=>some true))
def gg (a:List Int) (b:List Int):Option Bool:=
 (b6 a b).bind fun c=>some c
def dO (a:Int×(List Bool)×(List (List Int))) (b:Int×(List Bool)×(List (List Int))):Option Bool:=
 if a.1==b.1 then ((dL a.2.1 b.2.1).bind fun c=>if c then ((bu a.2.2 b.2.2 (fun a0 a1=>gg a0 a1)).bind fun d=>some d) else (some false)) else (some false)
def mH (a:Int×(List Bool)×(List (List Int))) (q0:Int×(List Bool)×(List (List Int))):Option Bool:=
 (dO (q0.1,q0.2.1,q0.2.2) (a.1,a.2.1,a.2.2)).bind fun b=>some b
def mI (a:(List Yq1)):Option (List Yq1):=
 (cM 32 ([] :List Yq1) a).bind fun b=>some b
def kO (d:List Yq3) (a:Int×(List Yq2)×(List Yq3)):Option (Out (Yq6×Bool) (Int×(List Yq2)×(List Yq3))):=
 if decide (a.1<(d.length:Int)) then ((aG d a.1).bind fun c=>(iG c.2.1).bind fun b=>if b.2 then ((bD c.1 1 99).bind fun i=>if i then (if decide (a.1>0) then ((aG d (i64.wrap (a.1 - 1))).bind fun j=>if decide (j.1≥c.1) then (some (.ret (([],[]),false))) else ((bh a.2.1 (fun a0=>mH a0 (b.1.1,b.1.2.1,b.1.2.2))).bind fun g=>Option.bind ((if decide (g<0) then ((cM 56 a.2.1 ([(b.1.1,b.1.2.1,b.1.2.2)])).bind fun k=>some ((a.2.1.length:Int),k,a.2.2)) else (some (g,a.2.1,a.2.2)):Option (Int×(List Yq2)×(List Yq3)))) (fun e=>(mI c.2.1).bind fun l=>(cM 40 e.2.2 ([(c.1,l,e.1)])).bind fun m=>some (.nxt (i64.wrap (a.1+1),e.2.1,m))))) else ((bh a.2.1 (fun a0=>mH a0 (b.1.1,b.1.2.1,b.1.2.2))).bind fun h=>Option.bind ((if decide (h<0) then ((cM 56 a.2.1 ([(b.1.1,b.1.2.1,b.1.2.2)])).bind fun n=>some ((a.2.1.length:Int),n,a.2.2)) else (some (h,a.2.1,a.2.2)):Option (Int×(List Yq2)×(List Yq3)))) (fun f=>(mI c.2.1).bind fun o=>(cM 40 f.2.2 ([(c.1,o,f.1)])).bind fun p=>some (.nxt (i64.wrap (a.1+1),f.2.1,p))))) else (some (.ret (([],[]),false)))) else (some (.ret (([],[]),false)))) else (some (.brk (a.1,a.2.1,a.2.2)))
def tN (a:List Yq3):Option (Yq6×Bool):=
 aJ (ak (kO a) aP (0,[],[])) (fun r=>some r) (fun b=>some ((b.2.1,b.2.2),decide ((a.length:Int)<=4)))
def aN (d:List Yq2) (e:List Yq2) (f:Yq2->Yq2->Option Bool) (a:Int):Option (Out Bool Int):=
 if decide (a<(d.length:Int)) then ((aG d a).bind fun b=>(aG e a).bind fun c=>(f (b.1,b.2.1,b.2.2) (c.1,c.2.1,c.2.2)).bind fun g=>if g then (some (.nxt (i64.wrap (a+1)))) else (some (.ret false))) else (some (.brk a))
def aU (a:List Yq2) (b:List Yq2) (c:Yq2->Yq2->Option Bool):Option Bool:=
 if (a.length:Int) !=(b.length:Int) then (some false) else (aJ (ak (aN a b c) aP 0) (fun r=>some r) (fun d=>some true))
def aM (d:List Yq3) (e:List Yq3) (f:Yq3->Yq3->Option Bool) (a:Int):Option (Out Bool Int):=
 if decide (a<(d.length:Int)) then ((aG d a).bind fun b=>(aG e a).bind fun c=>(f (b.1,b.2.1,b.2.2) (c.1,c.2.1,c.2.2)).bind fun g=>if g then (some (.nxt (i64.wrap (a+1)))) else (some (.ret false))) else (some (.brk a))
def aQ (a:List Yq3) (b:List Yq3) (c:Yq3->Yq3->Option Bool):Option Bool:=
 if (a.length:Int) !=(b.length:Int) then (some false) else (aJ (ak (aM a b c) aP 0) (fun r=>some r) (fun d=>some true))
def bR (d:List Yq1) (e:List Yq1) (a:Int):Option (Out Bool Int):=
 if decide (a<(d.length:Int)) then ((aG d a).bind fun b=>(aG e a).bind fun c=>if (b.1==c.1)&&((b.2.1==c.2.1)&&((b.2.2.1==c.2.2.1)&&((b.2.2.2==c.2.2.2)&&true))) then (some (.nxt (i64.wrap (a+1)))) else (some (.ret false))) else (some (.brk a))
def dA (a:List Yq1) (b:List Yq1):Option Bool:=
 if (a.length:Int) !=(b.length:Int) then (some false) else (aJ (ak (bR a b) aP 0) (fun r=>some r) (fun c=>some true))
def mj (a:(List Yq1)) (b:(List Yq1)):Option Bool:=
 (dA a b).bind fun c=>some c
def gD (a:Int×((List Yq1))×Int) (b:Int×((List Yq1))×Int):Option Bool:=
 if a.1==b.1 then ((mj a.2.1 b.2.1).bind fun c=>if c then (some (a.2.2==b.2.2)) else (some false)) else (some false)
def gi (a:(List Yq2)×(List Yq3)) (b:(List Yq2)×(List Yq3)):Option Bool:=
 (aU a.1 b.1 (fun a0 a1=>dO a0 a1)).bind fun c=>if c then ((aQ a.2 b.2 (fun a0 a1=>gD a0 a1)).bind fun d=>some d) else (some false)
def dV (a:(List Yq2)×(List Yq3)):Option Bool:=
 (tN a.2).bind fun b=>if b.2 then ((gi (b.1.1,b.1.2) (a.1,a.2)).bind fun c=>some c) else (some false)
def ja (a:Int×Yq4):Option Int:=
 (m_i_IsValidHistory (a.1,a.2)).bind fun b=>if b then (some (i64.wrap ((i64.wrap (a.1+(a.2.length:Int))) - 1))) else (some 0)
def ba (c:List Yq3) (d:Yq3->Option Bool) (a:Int):Option (Out Int Int):=
 if decide (a<(c.length:Int)) then ((aG c a).bind fun b=>(d (b.1,b.2.1,b.2.2)).bind fun e=>if e then (some (.ret a)) else (some (.nxt (i64.wrap (a+1))))) else (some (.brk a))
def bI (a:List Yq3) (b:Yq3->Option Bool):Option Int:=
 aJ (ak (ba a b) aP 0) (fun r=>some r) (fun c=>some (-1))
def kP (a:Int×((List Yq1))×Int) (q0:Int):Option Bool:=
 some (a.1==q0)
def jb (a:(List Yq2)×(List Yq3)) (b:Int):Option Int:=
 (bI a.2 (fun a0=>kP a0 b)).bind fun c=>some c
def eS (a:ByteArray) (b:Int):Option Int:=R.xy a b
def cH (p0 p1:ByteArray):Option (List ByteArray):=R.Le p0 p1
def fT (a:ByteArray):Option (Int×Bool):=R.sn a
def cW (p0 p1:ByteArray):Option (ByteArray×ByteArray×Bool):=R.ZQ p0 p1
def mZ (a:Int):Option (ByteArray):=R.TC a
def dj (a:Int):Option ByteArray:=
 (mZ a).bind fun b=>some b
def jx (a:Int×Int×Int×Int):Option ByteArray:=
 (kd (a.1,a.2.1,a.2.2.1,a.2.2.2) 5).bind fun b=>if b then ((dj a.1).bind fun c=>(mU c (⟨#[58]⟩)).bind fun d=>(dj a.2.1).bind fun e=>(mU d e).bind fun f=>(sg (⟨#[97,98,99]⟩) a.2.2.2 (i64.wrap (a.2.2.2+1))).bind fun g=>(mU f g).bind fun h=>(dj a.2.2.1).bind fun i=>(mU h i).bind fun j=>some j) else (some ((⟨#[]⟩:ByteArray)))
def gj (b:ByteArray):Option (Yq1×Bool):=
 (cW b (⟨#[58]⟩)).bind fun a=>if ((a.2.1.size:Nat):Int) !=3 then (some ((0,0,0,0),false)) else ((lu a.2.1 0).bind fun c=>(lu a.2.1 1).bind fun d=>(lu a.2.1 2).bind fun e=>(fT a.1).bind fun f=>(jx (f.1,i64.wrap ((i64.wrap c) - 48),i64.wrap ((i64.wrap e) - 48),i64.wrap ((i64.wrap d) - 97))).bind fun g=>if g !=b then (some ((0,0,0,0),false)) else (some ((f.1,i64.wrap ((i64.wrap c) - 48),i64.wrap ((i64.wrap e) - 48),i64.wrap ((i64.wrap d) - 97)),true)))
def jJ (a:List ByteArray) (b:ByteArray):Option (ByteArray):=R.TA a b
def eT (d:List Yq5) (a:(List ByteArray)×Int):Option (Out ByteArray ((List ByteArray)×Int)):=
 if decide (a.2<(d.length:Int)) then (Is (S:=List ByteArray) ((aG d a.2).bind fun b=>(jx (b.2.1,b.2.2.1,b.2.2.2.1,b.2.2.2.2)).bind fun c=>if c==((⟨#[]⟩:ByteArray)) then (some (.inl (.ret ((⟨#[]⟩:ByteArray))))) else (if b.1 then ((mU (⟨#[43]⟩) c).bind fun e=>(cM 16 a.1 ([e])).bind fun f=>some (.inr f)) else ((mU (⟨#[45]⟩) c).bind fun g=>(cM 16 a.1 ([g])).bind fun h=>some (.inr h)))) (fun i=>some (.nxt (i,i64.wrap (a.2+1))))) else (some (.brk (a.1,a.2)))
def dW (a:List Yq5):Option ByteArray:=
 if decide ((a.length:Int)>6) then (some ((⟨#[]⟩:ByteArray))) else (aJ (ak (eT a) aP (([] :List ByteArray),0)) (fun b=>some b) (fun c=>(jJ c.1 (⟨#[32]⟩)).bind fun d=>some d))
def dh (d:List ByteArray) (a:Int×List Yq5):Option (Out ((List Yq5)×Bool) (Int×List Yq5)):=
 if decide (a.1<(d.length:Int)) then ((aG d a.1).bind fun c=>if c==((⟨#[]⟩:ByteArray)) then (some (.ret (([] :List Yq5),false))) else ((sg c 1 ((c.size:Nat):Int)).bind fun e=>(gj e).bind fun b=>if b.2 then ((lu c 0).bind fun f=>(cM 40 a.2 ([(f==43,b.1.1,b.1.2.1,b.1.2.2.1,b.1.2.2.2)])).bind fun g=>some (.nxt (i64.wrap (a.1+1),g))) else (some (.ret (([] :List Yq5),false))))) else (some (.brk (a.1,a.2)))
def fe (a:ByteArray):Option ((List Yq5)×Bool):=
 if a==((⟨#[]⟩:ByteArray)) then (some (([] :List Yq5),true)) else ((cH a (⟨#[32]⟩)).bind fun c=>aJ (ak (dh c) aP (0,([] :List Yq5))) (fun d=>some d) (fun b=>(dW b.2).bind fun e=>if e !=a then (some (([] :List Yq5),false)) else (some (b.2,true))))
def oe (b:ByteArray) (a:Int×Int):Option Dq:=
 if decide (a.2<((b.size:Nat):Int)) then ((lu b a.2).bind fun c=>some (.nxt (Int.tmod (i64.wrap ((i64.wrap ((i64.wrap (257*a.1))+(i64.wrap c)))+1)) 9973,i64.wrap (a.2+1)))) else (some (.brk (a.1,a.2)))
def kg (a:ByteArray):Option Int:=
 aJ (ak (oe a) aP (1,0)) (fun b=>some b) (fun c=>some c.1)
def gE (a:Int) (c:List Yq5):Option ByteArray:=
 (dW c).bind fun b=>(bD a 1 999).bind fun f=>if f then (if b==((⟨#[]⟩:ByteArray)) then (if decide ((c.length:Int)>0) then (some ((⟨#[]⟩:ByteArray))) else ((dj a).bind fun g=>(mU g (⟨#[59]⟩)).bind fun h=>(mU h b).bind fun i=>(mU i (⟨#[59]⟩)).bind fun d=>(kg d).bind fun j=>(dj j).bind fun k=>(mU d k).bind fun l=>(mU l (⟨#[10]⟩)).bind fun m=>some m)) else ((dj a).bind fun n=>(mU n (⟨#[59]⟩)).bind fun o=>(mU o b).bind fun p=>(mU p (⟨#[59]⟩)).bind fun e=>(kg e).bind fun q=>(dj q).bind fun r=>(mU e r).bind fun s=>(mU s (⟨#[10]⟩)).bind fun t=>some t)) else (some ((⟨#[]⟩:ByteArray)))
def jK (d:ByteArray):Option (Int×(List Yq5)×Bool):=
 (cH d (⟨#[59]⟩)).bind fun a=>if (a.length:Int) !=3 then (some (0,([] :List Yq5),false)) else ((aG a 0).bind fun e=>(fT e).bind fun b=>(aG a 1).bind fun f=>(fe f).bind fun c=>if b.2 then (if c.2 then ((gE b.1 c.1).bind fun g=>if g !=d then (some (0,([] :List Yq5),false)) else (some (b.1,c.1,true))) else (some (0,([] :List Yq5),false))) else (some (0,([] :List Yq5),false)))
def cw (c:ByteArray) (a:(List Int)×(List (List Yq5))×Int):Option (Out ((List Int)×(List (List Yq5))×Int) ((List Int)×(List (List Yq5))×Int)):=
 if decide (((c.size:Nat):Int)<=4000) then ((sg c a.2.2 ((c.size:Nat):Int)).bind fun e=>(eS e 10).bind fun d=>if decide (d<0) then (some (.brk (a.1,a.2.1,a.2.2))) else ((sg c a.2.2 (i64.wrap ((i64.wrap (a.2.2+d))+1))).bind fun f=>(jK f).bind fun b=>if b.2.2 then (if decide ((a.1.length:Int)>0) then ((aG a.1 (i64.wrap ((a.1.length:Int) - 1))).bind fun g=>if b.1 !=(i64.wrap (g+1)) then (some (.brk (a.1,a.2.1,a.2.2))) else ((cM 8 a.1 ([b.1])).bind fun h=>(cM 24 a.2.1 ([b.2.1])).bind fun i=>some (.nxt (h,i,i64.wrap (a.2.2+(i64.wrap (d+1))))))) else ((cM 8 a.1 ([b.1])).bind fun j=>(cM 24 a.2.1 ([b.2.1])).bind fun k=>some (.nxt (j,k,i64.wrap (a.2.2+(i64.wrap (d+1))))))) else (some (.brk (a.1,a.2.1,a.2.2))))) else (some (.brk (a.1,a.2.1,a.2.2)))
def m_i_ScanLog (b:ByteArray):Option ((List Int)×(List (List Yq5))×Int):=
 aJ (ak (cw b) aP (([] :List Int),([] :List (List Yq5)),0)) (fun c=>some c) (fun a=>some (a.1,a.2.1,a.2.2))
def cd (a:(Int×Yq4)×Yq6×Yq7×ByteArray) (d:Int) (b:Int):Option (Out Bool Int):=
 if decide (b<(a.2.2.1.length:Int)) then ((aG a.2.2.1 b).bind fun c=>(bD c.1 1 99).bind fun e=>if e then (if decide (b>0) then ((aG a.2.2.1 (i64.wrap (b - 1))).bind fun f=>if decide (f.1≥c.1) then (some (.ret false)) else ((jb (a.2.1.1,a.2.1.2) c.2.1).bind fun g=>if decide (g<0) then (some (.ret false)) else ((bD c.2.2 0 d).bind fun h=>if h then (some (.nxt (i64.wrap (b+1)))) else (some (.ret false))))) else ((jb (a.2.1.1,a.2.1.2) c.2.1).bind fun i=>if decide (i<0) then (some (.ret false)) else ((bD c.2.2 0 d).bind fun j=>if j then (some (.nxt (i64.wrap (b+1)))) else (some (.ret false))))) else (some (.ret false))) else (some (.brk b))
def jc (a:(Int×Yq4)×Yq6×Yq7×ByteArray):Option Bool:=
 (m_i_IsValidHistory (a.1.1,a.1.2)).bind fun d=>if d then ((dV (a.2.1.1,a.2.1.2)).bind fun e=>if e then (if decide ((a.2.2.1.length:Int)>4) then (some false) else (if decide ((a.2.2.2.size:Int)>4000) then (some false) else ((ja (a.1.1,a.1.2)).bind fun c=>aJ (ak (cd a c) aP 0) (fun r=>some r) (fun g=>(m_i_ScanLog a.2.2.2).bind fun b=>if b.2.2==(a.2.2.2.size:Int) then (if (b.1.length:Int)==0 then (some true) else ((aG b.1 (i64.wrap ((b.1.length:Int) - 1))).bind fun f=>some (f==c))) else (some false))))) else (some false)) else (some false)
def mJ (a:List Int):Option (List Int):=
 (cM 8 ([] :List Int) a).bind fun b=>some b
def dJ (b:Int×(List Bool)×(List (List Int))) (a:Int×Int×(List Bool)×(List (List Int))):Option (Out Yq2 (Int×Int×(List Bool)×(List (List Int)))):=
 if decide (a.1<(b.2.2.length:Int)) then ((aG b.2.2 a.1).bind fun c=>(mJ c).bind fun d=>(cM 24 a.2.2.2 ([d])).bind fun e=>some (.nxt (i64.wrap (a.1+1),a.2.1,a.2.2.1,e))) else (some (.brk (a.1,a.2.1,a.2.2.1,a.2.2.2)))
def jd (a:Int×(List Bool)×(List (List Int))):Option Yq2:=
 (cM 1 ([] :List Bool) a.2.1).bind fun c=>aJ (ak (dJ a) aP (0,a.1,c,[])) (fun r=>some r) (fun b=>some (b.2.1,b.2.2.1,b.2.2.2))
def eU (a:(List Yq2)×(List Yq3)) (e:Int):Option (Yq2×Bool):=
 (jb (a.1,a.2) e).bind fun d=>if decide (d<0) then (some ((0,[],[]),false)) else ((dV (a.1,a.2)).bind fun f=>if f then ((aG a.2 d).bind fun g=>(aG a.1 g.2.2).bind fun b=>(jd (b.1,b.2.1,b.2.2)).bind fun c=>some ((c.1,c.2.1,c.2.2),true)) else (some ((0,[],[]),false)))
def bY (c:Int×(List Bool)×(List (List Int))) (b:List Int) (a:Int):Option (Out Bool Int):=
 if decide (a<(b.length:Int)) then ((aG b a).bind fun d=>(bD d (-1) (i64.wrap ((c.2.1.length:Int) - 1))).bind fun e=>if e then (some (.nxt (i64.wrap (a+1)))) else (some (.ret false))) else (some (.brk a))
def dM (b:Int×(List Bool)×(List (List Int))) (a:Int):Option (Out Bool Int):=
 if decide (a<(b.2.2.length:Int)) then ((aG b.2.2 a).bind fun c=>aJ (ak (bY b c) aP 0) (fun r=>some (.ret r)) (fun d=>if (c.length:Int) !=9 then (some (.ret false)) else (some (.nxt (i64.wrap (a+1)))))) else (some (.brk a))
def bP (a:Int×(List Bool)×(List (List Int))):Option Bool:=
 (bD (a.2.1.length:Int) 1 12).bind fun b=>if b then ((bD a.1 0 (i64.wrap ((a.2.1.length:Int) - 1))).bind fun c=>if c then (if (a.2.2.length:Int) !=(a.2.1.length:Int) then (some false) else (aJ (ak (dM a) aP 0) (fun r=>some r) (fun d=>some true))) else (some false)) else (some false)
def dk (c:(List Int)×(List Yq1)) (b:List Int) (a:Int):Option (Out Bool Int):=
 if decide (a<(b.length:Int)) then ((aG b a).bind fun d=>(bD d 0 (i64.wrap ((c.1.length:Int) - 1))).bind fun e=>if e then (some (.nxt (i64.wrap (a+1)))) else (some (.ret false))) else (some (.brk a))
def cn (a:(List Int)×(List Yq1)) (b:Int×(List Bool)×(List (List Int))) (c:List Int):Option Bool:=
 aJ (ak (dk a c) aP 0) (fun r=>some r) (fun f=>(aW (a.1,a.2)).bind fun d=>if d then ((bP (b.1,b.2.1,b.2.2)).bind fun e=>some e) else (some false))
def kQ (c:List Int) (a:(List Int)×Int×List Int):Option (Out (List Int) ((List Int)×Int×List Int)):=
 if decide (a.2.1<(c.length:Int)) then ((aG c a.2.1).bind fun b=>(aG a.2.2 b).bind fun e=>(cM 8 a.1 ([b])).bind fun d=>some (.nxt (d,i64.wrap (a.2.1+1),a.2.2.set b.toNat 0))) else (some (.brk (a.1,a.2.1,a.2.2)))
def kR (c:List Int) (a:(List Int)×Int×List Int):Option (Out (List Int) ((List Int)×Int×List Int)):=
 if decide (a.2.1<(c.length:Int)) then (Option.bind (((aG c a.2.1).bind fun b=>(aG a.2.2 b).bind fun e=>if decide (e<0) then ((aG a.1 0).bind fun f=>(aG a.2.2 f).bind fun g=>(aG a.2.2 b).bind fun i=>(cM 8 a.1 ([b])).bind fun h=>some (h,a.2.2.set b.toNat (i64.wrap (g+1)))) else (some (a.1,a.2.2)):Option ((List Int)×List Int))) (fun d=>some (.nxt (d.1,i64.wrap (a.2.1+1),d.2)))) else (some (.brk (a.1,a.2.1,a.2.2)))
def kS (c:List (List Int)) (a:(List Int)×List Int):Option (Out (List Int) ((List Int)×List Int)):=
 if decide ((a.1.length:Int)>0) then ((aG a.1 0).bind fun d=>(aG c d).bind fun e=>aJ (ak (kR e) aP (a.1,0,a.2)) (fun f=>some (.ret f)) (fun b=>(chk (And ((0:Int)<=1) (1<=(b.1.length:Int)))).bind fun _=>some (.nxt (b.1.drop 1,b.2.2)))) else (some (.brk (a.1,a.2)))
def tO (a:List (List Int)) (c:List Int):Option (List Int):=
 (bU ([(-1)]) (a.length:Int)).bind fun d=>aJ (ak (kQ c) aP (([] :List Int),0,d)) (fun e=>some e) (fun b=>aJ (ak (kS a) aP (b.1,b.2.2)) (fun f=>some f) (fun g=>some g.2))
def pC (b:Int) (a:(List Int)×Int):Option PX:=
 (chk (0<=a.2)).bind fun _=>if (oK b a.2) !=0 then (Option.bind (((chk (0<=a.2)).bind fun _=>if (tn (oK b a.2) 1)==1 then ((cM 8 a.1 ([a.2])).bind fun c=>some c) else (some a.1):Option (List Int))) (fun d=>some (.nxt (d,i64.wrap (a.2+1))))) else (some (.brk (a.1,a.2)))
def iH (a:Int):Option (List Int):=
 aJ (ak (pC a) aP (([] :List Int),0)) (fun r=>some r) (fun b=>some b.1)
def sq (a:Int×Int×Int×Int) (b:Bool):Option Int:=
 if b then (some (i64.wrap ((i64.wrap (2*a.2.2.2))+1))) else (some (i64.wrap (2*a.2.2.2)))
def oh (d:(List Int)×List Yq1) (b:Int×List (List Yq8)):Option (Out (List (List Yq8)) (Int×List (List Yq8))):=
 if decide (b.1<(d.2.length:Int)) then ((aG d.2 b.1).bind fun a=>(aG b.2 a.2.1).bind fun e=>(sq (a.1,a.2.1,a.2.2.1,a.2.2.2) false).bind fun f=>(cM 32 e ([((a.1,false),f,a.2.2.1)])).bind fun c=>(aG b.2 a.2.1).bind fun j=>(chk (a.2.1<((b.2.set a.2.1.toNat ([] :List Yq8)).length:Int))).bind fun _=>(chk (a.2.1=a.2.1)).bind fun _=>(aG (b.2.set a.2.1.toNat c) a.2.2.1).bind fun g=>(sq (a.1,a.2.1,a.2.2.1,a.2.2.2) true).bind fun h=>(cM 32 g ([((a.1,true),h,a.2.1)])).bind fun i=>(aG (b.2.set a.2.1.toNat c) a.2.2.1).bind fun k=>(chk (a.2.2.1<(((b.2.set a.2.1.toNat c).set a.2.2.1.toNat ([] :List Yq8)).length:Int))).bind fun _=>(chk (a.2.2.1=a.2.2.1)).bind fun _=>some (.nxt (i64.wrap (b.1+1),(b.2.set a.2.1.toNat c).set a.2.2.1.toNat i))) else (some (.brk (b.1,b.2)))
def wg (a:(List Int)×List Yq1):Option (List (List Yq8)):=
 (mkI 24 (a.1.length:Int) ([] :List Yq8)).bind fun b=>aJ (ak (oh a) aP (0,b)) (fun c=>some c) (fun d=>some d.2)
def jy (b:Int×(List Bool)×(List (List Int))) (c:Int) (a:Int×Int):Option Dq:=
 if decide (a.2≥0) then ((chk (0<=a.2)).bind fun _=>if (tn (oK a.1 a.2) 1)==0 then ((chk (0<=a.2)).bind fun _=>(bH (b.1,b.2.1,b.2.2) a.2 (i64.wrap (6+c))).bind fun d=>some (.nxt (orI a.1 (xf 1 a.2),d))) else (some (.brk (a.1,a.2)))) else (some (.brk (a.1,a.2)))
def j5 (a:Int×(List Bool)×(List (List Int))) (b:Int) (c:Int):Option Int:=
 aJ (ak (jy a c) aP (0,b)) (fun r=>some r) (fun d=>some d.1)
def mK (b:Int×(List Bool)×(List (List Int))) (e:Int) (d:List Int) (a:Int×Int):Option Dq:=
 if decide (a.2<(d.length:Int)) then (Option.bind (((aG d a.2).bind fun f=>(bH (b.1,b.2.1,b.2.2) f e).bind fun c=>if decide (c≥0) then ((chk (0<=c)).bind fun _=>some (orI a.1 (xf 1 c))) else (some a.1):Option Int)) (fun g=>some (.nxt (g,i64.wrap (a.2+1))))) else (some (.brk (a.1,a.2)))
def iI (b:Int×(List Bool)×(List (List Int))) (d:Int) (e:Int) (c:List Int) (a:Int×Int):Option Dq:=
 if decide (a.2<(c.length:Int)) then ((aG c a.2).bind fun f=>(j5 (b.1,b.2.1,b.2.2) f d).bind fun g=>(iH g).bind fun h=>aJ (ak (mK b e h) aP (a.1,0)) (fun r=>some (.ret r)) (fun i=>some (.nxt (i.1,i64.wrap (a.2+1))))) else (some (.brk (a.1,a.2)))
def su (a:Int×(List Bool)×(List (List Int))) (b:Int) (c:Int) (d:Int):Option Int:=
 (iH b).bind fun e=>aJ (ak (iI a c d e) aP (0,0)) (fun r=>some r) (fun f=>some f.1)
def di (b:Int×(List Bool)×List (List Int)) (c:Int×List (List Int)) (d:Int×List (List Int)) (f:(Int×Bool)×Int×Int) (e:List Int) (a:Int×List (List Int)):Option (Out (List (List Int)) (Int×List (List Int))):=
 if decide (a.1<(e.length:Int)) then ((aG e a.1).bind fun g=>(aG a.2 (i64.wrap ((i64.wrap (c.1*(b.2.1.length:Int)))+d.1))).bind fun h=>(cM 8 h ([i64.wrap ((i64.wrap (f.2.2*(b.2.1.length:Int)))+g)])).bind fun i=>(aG a.2 (i64.wrap ((i64.wrap (c.1*(b.2.1.length:Int)))+d.1))).bind fun j=>(chk ((i64.wrap ((i64.wrap (c.1*(b.2.1.length:Int)))+d.1))<((a.2.set ((i64.wrap ((i64.wrap (c.1*(b.2.1.length:Int)))+d.1)).toNat) ([] :List Int)).length:Int))).bind fun _=>(chk ((i64.wrap ((i64.wrap (c.1*(b.2.1.length:Int)))+d.1))=(i64.wrap ((i64.wrap (c.1*(b.2.1.length:Int)))+d.1)))).bind fun _=>some (.nxt (i64.wrap (a.1+1),a.2.set ((i64.wrap ((i64.wrap (c.1*(b.2.1.length:Int)))+d.1)).toNat) i))) else (some (.brk (a.1,a.2)))
def dX (g:(List Int)×List Yq1) (b:Int×(List Bool)×List (List Int)) (d:Int×List (List Int)) (e:List Yq8) (c:Int×List (List Int)) (a:Int×List (List Int)):Option (Out (List (List Int)) (Int×List (List Int))):=
 if decide (a.1<(e.length:Int)) then ((aG e a.1).bind fun f=>(chk (0<=c.1)).bind fun _=>(aG g.1 d.1).bind fun h=>(su (b.1,b.2.1,b.2.2) (xf 1 c.1) h f.2.1).bind fun i=>(iH i).bind fun j=>aJ (ak (di b d c f j) aP (0,a.2)) (fun k=>some (.ret k)) (fun l=>some (.nxt (i64.wrap (a.1+1),l.2)))) else (some (.brk (a.1,a.2)))
def dY (c:(List Int)×List Yq1) (b:Int×(List Bool)×List (List Int)) (d:Int×List (List Int)) (e:List Yq8) (a:Int×List (List Int)):Option (Out (List (List Int)) (Int×List (List Int))):=
 if decide (a.1<(b.2.1.length:Int)) then (aJ (ak (dX c b d e a) aP (0,a.2)) (fun f=>some (.ret f)) (fun g=>some (.nxt (i64.wrap (a.1+1),g.2)))) else (some (.brk (a.1,a.2)))
def gk (c:(List Int)×List Yq1) (d:Int×(List Bool)×List (List Int)) (b:List (List Yq8)) (a:Int×List (List Int)):Option (Out (List (List Int)) (Int×List (List Int))):=
 if decide (a.1<(b.length:Int)) then ((aG b a.1).bind fun e=>aJ (ak (dY c d a e) aP (0,a.2)) (fun f=>some (.ret f)) (fun g=>some (.nxt (i64.wrap (a.1+1),g.2)))) else (some (.brk (a.1,a.2)))
def eJ (a:(List Int)×List Yq1) (b:Int×(List Bool)×List (List Int)):Option (List (List Int)):=
 (mkI 24 (i64.wrap ((b.2.1.length:Int)*(a.1.length:Int))) ([] :List Int)).bind fun c=>(wg (a.1,a.2)).bind fun d=>aJ (ak (gk a b d) aP (0,c)) (fun e=>some e) (fun f=>some f.2)
def fK (b:(List Int)×List Yq1) (a:Int×(List Bool)×List (List Int)) (c:Int):Option (List Int):=
 (cn (b.1,b.2) (a.1,a.2.1,a.2.2) ([c])).bind fun e=>if e then ((eJ (b.1,b.2) (a.1,a.2.1,a.2.2)).bind fun f=>(tO f ([i64.wrap ((i64.wrap (c*(a.2.1.length:Int)))+a.1)])).bind fun d=>((chk (0<(d.length:Int))).bind fun _=>some d).bind fun g=>some g) else (some ([] :List Int))
def jL (c:Int×(List Bool)×(List (List Int))) (b:List Int) (a:Int):Option (Out Bool Int):=
 if decide (a<(b.length:Int)) then ((aG b a).bind fun d=>(aG c.2.1 d).bind fun e=>if e then (some (.ret true)) else (some (.nxt (i64.wrap (a+1))))) else (some (.brk a))
def eK (a:Int×(List Bool)×(List (List Int))) (d:Int) (c:List Int) (b:Int):Option (Out Bool Int):=
 if decide (b<(c.length:Int)) then ((aG c b).bind fun e=>(j5 (a.1,a.2.1,a.2.2) e d).bind fun f=>(iH f).bind fun g=>aJ (ak (jL a g) aP 0) (fun r=>some (.ret r)) (fun h=>some (.nxt (i64.wrap (b+1))))) else (some (.brk b))
def kT (a:Int×(List Bool)×(List (List Int))) (b:Int) (c:Int):Option Bool:=
 (iH b).bind fun d=>aJ (ak (eK a c d) aP 0) (fun r=>some r) (fun e=>some false)
def ff (a:List Int):Option (List Int):=R.Tz a
def bZ (c:List Int) (b:Int) (a:Int×Int×List Int):Option (Out (List Int) (Int×Int×List Int)):=
 if decide (a.2.1<((0+((c.length:Int) - 0)) - (0+b))) then (Option.bind (((chk (And (0<=a.2.1) (a.2.1<((0+((c.length:Int) - 0)) - (0+b))))).bind fun _=>(aG a.2.2 ((0+b)+a.2.1)).bind fun e=>(chk (And (0<=(i64.wrap (a.2.1 - 1))) ((i64.wrap (a.2.1 - 1))<((0+((c.length:Int) - 0)) - (0+b))))).bind fun _=>(aG a.2.2 ((0+b)+(i64.wrap (a.2.1 - 1)))).bind fun f=>if e !=f then ((chk (And (0<=a.2.1) (a.2.1<((0+((c.length:Int) - 0)) - (0+b))))).bind fun _=>(aG a.2.2 ((0+b)+a.2.1)).bind fun g=>(aG a.2.2 a.1).bind fun h=>some (i64.wrap (a.1+1),a.2.2.set a.1.toNat g)) else (some (a.1,a.2.2)):Option (Int×List Int))) (fun d=>some (.nxt (d.1,i64.wrap (a.2.1+1),d.2)))) else (some (.brk (a.1,a.2.1,a.2.2)))
def bF (c:List Int) (b:Int):Option (Out (List Int) Int):=
 if decide (b<(c.length:Int)) then ((aG c b).bind fun d=>(aG c (i64.wrap (b - 1))).bind fun e=>if d==e then ((chk (And (0<=b) (And (b<=((c.length:Int) - 0)) ((0+((c.length:Int) - 0))<=(c.length:Int))))).bind fun _=>aJ (ak (bZ c b) aP (b,1,c)) (fun f=>some (.ret f)) (fun a=>(chk (And (0<=a.1) (And (a.1<=((a.2.2.length:Int) - 0)) ((0+((a.2.2.length:Int) - 0))<=(a.2.2.length:Int))))).bind fun _=>(chk (And ((0+a.1)<=(0+((a.2.2.length:Int) - 0))) ((0+((a.2.2.length:Int) - 0))<=(a.2.2.length:Int)))).bind fun _=>(chk (And ((0:Int)<=0) (And (0<=a.1) ((0+a.1)<=((uY a.2.2 ((0+a.1).toNat) ((0+((a.2.2.length:Int) - 0)).toNat) 0).length:Int))))).bind fun _=>some (.ret (((uY a.2.2 ((0+a.1).toNat) ((0+((a.2.2.length:Int) - 0)).toNat) 0).take ((0+a.1).toNat)).drop 0)))) else (some (.nxt (i64.wrap (b+1))))) else (some (.brk b))
def cJ (a:List Int):Option (List Int):=
 if decide ((a.length:Int)<2) then (some a) else (aJ (ak (bF a) aP 1) (fun b=>some b) (fun c=>some a))
def kU (a:List Int):Option (List Int):=
 (mJ a).bind fun b=>(ff b).bind fun c=>(cJ c).bind fun d=>some d
def wh (a:(List Int)×Int):Option PX:=
 if decide (a.2<((0:Nat):Int)) then (none) else (some (.brk (a.1,a.2)))
def eV (d:(List Int)×List Yq1) (b:Int×(List Bool)×List (List Int)) (c:List Int) (a:(List Int)×Int):Option PX:=
 if decide (a.2<(c.length:Int)) then (Option.bind (((aG c a.2).bind fun e=>if decide (e≥0) then ((chk ((b.2.1.length:Int)≠0)).bind fun _=>(chk (0<=(Int.tmod a.2 (b.2.1.length:Int)))).bind fun _=>(chk ((b.2.1.length:Int)≠0)).bind fun _=>(aG d.1 (CZ a.2 (b.2.1.length:Int))).bind fun f=>(kT (b.1,b.2.1,b.2.2) (xf 1 (Int.tmod a.2 (b.2.1.length:Int))) f).bind fun g=>if g then ((chk ((b.2.1.length:Int)≠0)).bind fun _=>(cM 8 a.1 ([CZ a.2 (b.2.1.length:Int)])).bind fun h=>some h) else (some a.1)) else (some a.1):Option (List Int))) (fun i=>some (.nxt (i,i64.wrap (a.2+1))))) else (some (.brk (a.1,a.2)))
def iJ (b:(List Int)×List Yq1) (a:Int×(List Bool)×List (List Int)) (d:Int):Option (List Int):=
 (fK (b.1,b.2) (a.1,a.2.1,a.2.2) d).bind fun c=>if decide ((c.length:Int)=0) then (aJ (ak (wh) aP (([] :List Int),0)) (fun e=>some e) (fun f=>(kU f.1).bind fun g=>some g)) else (aJ (ak (eV b a c) aP (([] :List Int),0)) (fun h=>some h) (fun i=>(kU i.1).bind fun j=>some j))
def lM (c:Yq9×Int) (b:List Int) (a:Yq9×Int):Option (Out Yq9 (Yq9×Int)):=
 if decide (a.2<(b.length:Int)) then ((aG b a.2).bind fun d=>(cM 16 a.1 ([(c.2,d)])).bind fun e=>some (.nxt (e,i64.wrap (a.2+1)))) else (some (.brk (a.1,a.2)))
def fL (b:(List Int)×(List Yq1)) (c:Int×(List Bool)×(List (List Int))) (a:Yq9×Int):Option (Out Yq9 (Yq9×Int)):=
 if decide (a.2<(b.1.length:Int)) then ((iJ (b.1,b.2) (c.1,c.2.1,c.2.2) a.2).bind fun d=>aJ (ak (lM a d) aP (a.1,0)) (fun r=>some (.ret r)) (fun e=>some (.nxt (e.1,i64.wrap (a.2+1))))) else (some (.brk (a.1,a.2)))
def fg (b:(List Int)×(List Yq1)) (a:Int×(List Bool)×(List (List Int))):Option Yq9:=
 (cn (b.1,b.2) (a.1,a.2.1,a.2.2) ([])).bind fun c=>if c then (aJ (ak (fL b a) aP (([] :List (Int×Int)),0)) (fun r=>some r) (fun d=>some d.1)) else (some ([]))
def gF (c:(List Yq2)×(List Yq3)) (a:(List Int)×(List Yq1)) (d:Int):Option (Yq9×Bool):=
 (eU (c.1,c.2) d).bind fun b=>if b.2 then ((aW (a.1,a.2)).bind fun e=>if e then ((fg (a.1,a.2) (b.1.1,b.1.2.1,b.1.2.2)).bind fun f=>some (f,true)) else (some ([],false))) else (some ([],false))
def qQ (a:(Int×Yq4)×Yq6×Yq7×ByteArray):Option Li:=(aG a.1.2 (i64.wrap ((a.1.2.length:Int) - 1))).bind fun b=>some (b.1,b.2)
def fM (a:(Int×List ((List Int)×List Yq1))×((List (Int×(List Bool)×List (List Int)))×List (Int×(List Yq1)×Int))×Yq7×ByteArray) (d:Int):Option (Yq9×Bool):=
 (jc ((a.1.1,a.1.2),(a.2.1.1,a.2.1.2),a.2.2.1,a.2.2.2)).bind fun e=>if e then ((qQ ((a.1.1,a.1.2),(a.2.1.1,a.2.1.2),a.2.2.1,a.2.2.2)).bind fun b=>(gF (a.2.1.1,a.2.1.2) (b.1,b.2) d).bind fun c=>some (c.1,c.2)) else (some (([] :List (Int×Int)),false))
def tP (a:Int×Int) (b:Int×Int):Option Bool:=
 if a.1 !=b.1 then (some false) else (if a.2 !=b.2 then (some false) else (some true))
def mm (b:List (Int×Int)) (e:List (Int×Int)) (a:Int):Option (Out Bool Int):=
 if decide (a<(b.length:Int)) then ((aG b a).bind fun c=>(aG e a).bind fun d=>(tP (c.1,c.2) (d.1,d.2)).bind fun f=>if f then (some (.nxt (i64.wrap (a+1)))) else (some (.ret false))) else (some (.brk a))
def oi (a:List (Int×Int)) (b:List (Int×Int)):Option Bool:=
 if (a.length:Int) !=(b.length:Int) then (some false) else (aJ (ak (mm a b) aP 0) (fun r=>some r) (fun c=>some true))
def nE (b:List Int) (c:List Int) (a:Int):Option (Out Bool Int):=
 if decide (a<(b.length:Int)) then ((aG b a).bind fun d=>(aG c a).bind fun e=>if d !=e then (some (.ret false)) else (some (.nxt (i64.wrap (a+1))))) else (some (.brk a))
def tQ (a:List Int) (b:List Int):Option Bool:=
 if (a.length:Int) !=(b.length:Int) then (some false) else (aJ (ak (nE a b) aP 0) (fun r=>some r) (fun c=>some true))
def tR (a:Int×Int×Int×Int) (b:Int×Int×Int×Int):Option Bool:=
 if a.1 !=b.1 then (some false) else (if a.2.1 !=b.2.1 then (some false) else (if a.2.2.1 !=b.2.2.1 then (some false) else (if a.2.2.2 !=b.2.2.2 then (some false) else (some true))))
def mn (d:List Yq1) (e:List Yq1) (a:Int):Option (Out Bool Int):=
 if decide (a<(d.length:Int)) then ((aG d a).bind fun b=>(aG e a).bind fun c=>(tR (b.1,b.2.1,b.2.2.1,b.2.2.2) (c.1,c.2.1,c.2.2.1,c.2.2.2)).bind fun f=>if f then (some (.nxt (i64.wrap (a+1)))) else (some (.ret false))) else (some (.brk a))
def vi (a:List Yq1) (b:List Yq1):Option Bool:=
 if (a.length:Int) !=(b.length:Int) then (some false) else (aJ (ak (mn a b) aP 0) (fun r=>some r) (fun c=>some true))
def qR (a:(List Int)×(List Yq1)) (b:(List Int)×(List Yq1)):Option Bool:=
 (tQ a.1 b.1).bind fun c=>if c then ((vi a.2 b.2).bind fun d=>if d then (some true) else (some false)) else (some false)
def kV (b:List Li) (e:List Li) (a:Int):Option (Out Bool Int):=
 if decide (a<(b.length:Int)) then ((aG b a).bind fun c=>(aG e a).bind fun d=>(qR (c.1,c.2) (d.1,d.2)).bind fun f=>if f then (some (.nxt (i64.wrap (a+1)))) else (some (.ret false))) else (some (.brk a))
def sv (a:List Li) (b:List Li):Option Bool:=
 if (a.length:Int) !=(b.length:Int) then (some false) else (aJ (ak (kV a b) aP 0) (fun r=>some r) (fun c=>some true))
def nF (a:Int×Yq4) (b:Int×Yq4):Option Bool:=
 if a.1 !=b.1 then (some false) else ((sv a.2 b.2).bind fun c=>if c then (some true) else (some false))
def mo (b:List Bool) (c:List Bool) (a:Int):Option (Out Bool Int):=
 if decide (a<(b.length:Int)) then ((aG b a).bind fun d=>(aG c a).bind fun e=>if d !=e then (some (.ret false)) else (some (.nxt (i64.wrap (a+1))))) else (some (.brk a))
def vj (a:List Bool) (b:List Bool):Option Bool:=
 if (a.length:Int) !=(b.length:Int) then (some false) else (aJ (ak (mo a b) aP 0) (fun r=>some r) (fun c=>some true))
def mq (b:List (List Int)) (c:List (List Int)) (a:Int):Option (Out Bool Int):=
 if decide (a<(b.length:Int)) then ((aG b a).bind fun d=>(aG c a).bind fun e=>(tQ d e).bind fun f=>if f then (some (.nxt (i64.wrap (a+1)))) else (some (.ret false))) else (some (.brk a))
def vk (a:List (List Int)) (b:List (List Int)):Option Bool:=
 if (a.length:Int) !=(b.length:Int) then (some false) else (aJ (ak (mq a b) aP 0) (fun r=>some r) (fun c=>some true))
def kW (a:Int×(List Bool)×(List (List Int))) (b:Int×(List Bool)×(List (List Int))):Option Bool:=
 if a.1 !=b.1 then (some false) else ((vj a.2.1 b.2.1).bind fun c=>if c then ((vk a.2.2 b.2.2).bind fun d=>if d then (some true) else (some false)) else (some false))
def gl (d:List Yq2) (e:List Yq2) (a:Int):Option (Out Bool Int):=
 if decide (a<(d.length:Int)) then ((aG d a).bind fun b=>(aG e a).bind fun c=>(kW (b.1,b.2.1,b.2.2) (c.1,c.2.1,c.2.2)).bind fun f=>if f then (some (.nxt (i64.wrap (a+1)))) else (some (.ret false))) else (some (.brk a))
def na (a:List Yq2) (b:List Yq2):Option Bool:=
 if (a.length:Int) !=(b.length:Int) then (some false) else (aJ (ak (gl a b) aP 0) (fun r=>some r) (fun c=>some true))
def qS (a:Int×Int×Int×Int) (b:Int×Int×Int×Int):Option Bool:=
 if a.1 !=b.1 then (some false) else (if a.2.1 !=b.2.1 then (some false) else (if a.2.2.1 !=b.2.2.1 then (some false) else (if a.2.2.2 !=b.2.2.2 then (some false) else (some true))))
def kX (d:List Yq1) (e:List Yq1) (a:Int):Option (Out Bool Int):=
 if decide (a<(d.length:Int)) then ((aG d a).bind fun b=>(aG e a).bind fun c=>(qS (b.1,b.2.1,b.2.2.1,b.2.2.2) (c.1,c.2.1,c.2.2.1,c.2.2.2)).bind fun f=>if f then (some (.nxt (i64.wrap (a+1)))) else (some (.ret false))) else (some (.brk a))
def sw (a:List Yq1) (b:List Yq1):Option Bool:=
 if (a.length:Int) !=(b.length:Int) then (some false) else (aJ (ak (kX a b) aP 0) (fun r=>some r) (fun c=>some true))
def tS (a:(List Yq1)) (b:(List Yq1)):Option Bool:=
 (sw a b).bind fun c=>if c then (some true) else (some false)
def jM (a:Int×((List Yq1))×Int) (b:Int×((List Yq1))×Int):Option Bool:=
 if a.1 !=b.1 then (some false) else ((tS a.2.1 b.2.1).bind fun c=>if c then (if a.2.2 !=b.2.2 then (some false) else (some true)) else (some false))
def fu (d:List Yq3) (e:List Yq3) (a:Int):Option (Out Bool Int):=
 if decide (a<(d.length:Int)) then ((aG d a).bind fun b=>(aG e a).bind fun c=>(jM (b.1,b.2.1,b.2.2) (c.1,c.2.1,c.2.2)).bind fun f=>if f then (some (.nxt (i64.wrap (a+1)))) else (some (.ret false))) else (some (.brk a))
def lN (a:List Yq3) (b:List Yq3):Option Bool:=
 if (a.length:Int) !=(b.length:Int) then (some false) else (aJ (ak (fu a b) aP 0) (fun r=>some r) (fun c=>some true))
def mr (a:(List Yq2)×(List Yq3)) (b:(List Yq2)×(List Yq3)):Option Bool:=
 (na a.1 b.1).bind fun c=>if c then ((lN a.2 b.2).bind fun d=>if d then (some true) else (some false)) else (some false)
def jN (a:Int×Int×Int) (b:Int×Int×Int):Option Bool:=
 if a.1 !=b.1 then (some false) else (if a.2.1 !=b.2.1 then (some false) else (if a.2.2 !=b.2.2 then (some false) else (some true)))
def fv (d:List (Int×Int×Int)) (e:List (Int×Int×Int)) (a:Int):Option (Out Bool Int):=
 if decide (a<(d.length:Int)) then ((aG d a).bind fun b=>(aG e a).bind fun c=>(jN (b.1,b.2.1,b.2.2) (c.1,c.2.1,c.2.2)).bind fun f=>if f then (some (.nxt (i64.wrap (a+1)))) else (some (.ret false))) else (some (.brk a))
def lO (a:List (Int×Int×Int)) (b:List (Int×Int×Int)):Option Bool:=
 if (a.length:Int) !=(b.length:Int) then (some false) else (aJ (ak (fv a b) aP 0) (fun r=>some r) (fun c=>some true))
def oY (a:(Int×Yq4)×Yq6×Yq7×ByteArray) (b:(Int×Yq4)×Yq6×Yq7×ByteArray):Option Bool:=
 (nF (a.1.1,a.1.2) (b.1.1,b.1.2)).bind fun c=>if c then ((mr (a.2.1.1,a.2.1.2) (b.2.1.1,b.2.1.2)).bind fun d=>if d then ((lO a.2.2.1 b.2.2.1).bind fun e=>if e then (if a.2.2.2 !=b.2.2.2 then (some false) else (some true)) else (some false)) else (some false)) else (some false)
def kY (a:(List Int)×Int×Int):Option (Out (Int×(List Int)) ((List Int)×Int×Int)):=
 if decide (a.2.2<(a.1.length:Int)) then ((aG a.1 a.2.2).bind fun b=>some (.nxt (a.1.set a.2.2.toNat a.2.1,i64.wrap (a.2.1+1),i64.wrap (a.2.2+1)))) else (some (.brk (a.1,a.2.1,a.2.2)))
def mL (b:List Int) (c:Int):Option (Int×(List Int)):=
 aJ (ak (kY) aP (b,c,0)) (fun r=>some r) (fun a=>some (a.2.1,a.1))
def jO (a:(List Yq1)×Int×Int):Option (Out (Int×(List Yq1)) ((List Yq1)×Int×Int)):=
 if decide (a.2.2<(a.1.length:Int)) then ((aG a.1 a.2.2).bind fun b=>(aG (a.1.set a.2.2.toNat (a.2.1,b.2.1,b.2.2.1,b.2.2.2)) a.2.2).bind fun c=>(aG ((a.1.set a.2.2.toNat (a.2.1,b.2.1,b.2.2.1,b.2.2.2)).set a.2.2.toNat (c.1,i64.wrap (a.2.1+1),c.2.2.1,c.2.2.2)) a.2.2).bind fun d=>(aG (((a.1.set a.2.2.toNat (a.2.1,b.2.1,b.2.2.1,b.2.2.2)).set a.2.2.toNat (c.1,i64.wrap (a.2.1+1),c.2.2.1,c.2.2.2)).set a.2.2.toNat (d.1,d.2.1,i64.wrap ((i64.wrap (a.2.1+1))+1),d.2.2.2)) a.2.2).bind fun e=>some (.nxt ((((a.1.set a.2.2.toNat (a.2.1,b.2.1,b.2.2.1,b.2.2.2)).set a.2.2.toNat (c.1,i64.wrap (a.2.1+1),c.2.2.1,c.2.2.2)).set a.2.2.toNat (d.1,d.2.1,i64.wrap ((i64.wrap (a.2.1+1))+1),d.2.2.2)).set a.2.2.toNat (e.1,e.2.1,e.2.2.1,i64.wrap ((i64.wrap ((i64.wrap (a.2.1+1))+1))+1)),i64.wrap ((i64.wrap ((i64.wrap ((i64.wrap (a.2.1+1))+1))+1))+1),i64.wrap (a.2.2+1)))) else (some (.brk (a.1,a.2.1,a.2.2)))
def nG (b:List Yq1) (c:Int):Option (Int×(List Yq1)):=
 aJ (ak (jO) aP (b,c,0)) (fun r=>some r) (fun a=>some (a.2.1,a.1))
def je (a:Yq4×Int×Int):Option (Out (Int×Yq4) (Yq4×Int×Int)):=
 if decide (a.2.2<(a.1.length:Int)) then ((aG a.1 a.2.2).bind fun b=>(mL b.1 a.2.1).bind fun c=>(aG (a.1.set a.2.2.toNat (c.2,b.2)) a.2.2).bind fun d=>(nG d.2 c.1).bind fun e=>some (.nxt ((a.1.set a.2.2.toNat (c.2,b.2)).set a.2.2.toNat (d.1,e.2),e.1,i64.wrap (a.2.2+1)))) else (some (.brk (a.1,a.2.1,a.2.2)))
def mu (b:List Li) (c:Int):Option (Int×Yq4):=
 aJ (ak (je) aP (b,c,0)) (fun r=>some r) (fun a=>some (a.2.1,a.1))
def kZ (a:Int×Yq4) (c:Int):Option (Int×(Int×Yq4)):=
 (mu a.2 c).bind fun b=>some (b.1,(a.1,b.2))
def jP (a:(List Bool)×Int×Int):Option (Out (Int×(List Bool)) ((List Bool)×Int×Int)):=
 if decide (a.2.2<(a.1.length:Int)) then ((aG a.1 a.2.2).bind fun b=>some (.nxt (a.1.set a.2.2.toNat ((Int.tmod a.2.1 3)==0),i64.wrap (a.2.1+1),i64.wrap (a.2.2+1)))) else (some (.brk (a.1,a.2.1,a.2.2)))
def nH (b:List Bool) (c:Int):Option (Int×(List Bool)):=
 aJ (ak (jP) aP (b,c,0)) (fun r=>some r) (fun a=>some (a.2.1,a.1))
def jQ (a:(List (List Int))×Int×Int):Option (Out (Int×(List (List Int))) ((List (List Int))×Int×Int)):=
 if decide (a.2.2<(a.1.length:Int)) then ((aG a.1 a.2.2).bind fun c=>(mL c a.2.1).bind fun b=>some (.nxt (a.1.set a.2.2.toNat b.2,b.1,i64.wrap (a.2.2+1)))) else (some (.brk (a.1,a.2.1,a.2.2)))
def nI (b:List (List Int)) (c:Int):Option (Int×(List (List Int))):=
 aJ (ak (jQ) aP (b,c,0)) (fun r=>some r) (fun a=>some (a.2.1,a.1))
def eW (a:(List Yq2)×Int×Int):Option (Out (Int×(List Yq2)) ((List Yq2)×Int×Int)):=
 if decide (a.2.2<(a.1.length:Int)) then ((aG a.1 a.2.2).bind fun b=>(aG (a.1.set a.2.2.toNat (a.2.1,b.2.1,b.2.2)) a.2.2).bind fun c=>(nH c.2.1 (i64.wrap (a.2.1+1))).bind fun d=>(aG ((a.1.set a.2.2.toNat (a.2.1,b.2.1,b.2.2)).set a.2.2.toNat (c.1,d.2,c.2.2)) a.2.2).bind fun e=>(nI e.2.2 d.1).bind fun f=>some (.nxt (((a.1.set a.2.2.toNat (a.2.1,b.2.1,b.2.2)).set a.2.2.toNat (c.1,d.2,c.2.2)).set a.2.2.toNat (e.1,e.2.1,f.2),f.1,i64.wrap (a.2.2+1)))) else (some (.brk (a.1,a.2.1,a.2.2)))
def gQ (b:List Yq2) (c:Int):Option (Int×(List Yq2)):=
 aJ (ak (eW) aP (b,c,0)) (fun r=>some r) (fun a=>some (a.2.1,a.1))
def jf (a:(List Yq1)×Int×Int):Option (Out (Int×(List Yq1)) ((List Yq1)×Int×Int)):=
 if decide (a.2.2<(a.1.length:Int)) then ((aG a.1 a.2.2).bind fun b=>(aG (a.1.set a.2.2.toNat (a.2.1,b.2.1,b.2.2.1,b.2.2.2)) a.2.2).bind fun c=>(aG ((a.1.set a.2.2.toNat (a.2.1,b.2.1,b.2.2.1,b.2.2.2)).set a.2.2.toNat (c.1,i64.wrap (a.2.1+1),c.2.2.1,c.2.2.2)) a.2.2).bind fun d=>(aG (((a.1.set a.2.2.toNat (a.2.1,b.2.1,b.2.2.1,b.2.2.2)).set a.2.2.toNat (c.1,i64.wrap (a.2.1+1),c.2.2.1,c.2.2.2)).set a.2.2.toNat (d.1,d.2.1,i64.wrap ((i64.wrap (a.2.1+1))+1),d.2.2.2)) a.2.2).bind fun e=>some (.nxt ((((a.1.set a.2.2.toNat (a.2.1,b.2.1,b.2.2.1,b.2.2.2)).set a.2.2.toNat (c.1,i64.wrap (a.2.1+1),c.2.2.1,c.2.2.2)).set a.2.2.toNat (d.1,d.2.1,i64.wrap ((i64.wrap (a.2.1+1))+1),d.2.2.2)).set a.2.2.toNat (e.1,e.2.1,e.2.2.1,i64.wrap ((i64.wrap ((i64.wrap (a.2.1+1))+1))+1)),i64.wrap ((i64.wrap ((i64.wrap ((i64.wrap (a.2.1+1))+1))+1))+1),i64.wrap (a.2.2+1)))) else (some (.brk (a.1,a.2.1,a.2.2)))
def mw (b:List Yq1) (c:Int):Option (Int×(List Yq1)):=
 aJ (ak (jf) aP (b,c,0)) (fun r=>some r) (fun a=>some (a.2.1,a.1))
def eA (a:(List Yq3)×Int×Int):Option (Out (Int×(List Yq3)) ((List Yq3)×Int×Int)):=
 if decide (a.2.2<(a.1.length:Int)) then ((aG a.1 a.2.2).bind fun b=>(aG (a.1.set a.2.2.toNat (a.2.1,b.2.1,b.2.2)) a.2.2).bind fun c=>(mw c.2.1 (i64.wrap (a.2.1+1))).bind fun d=>(aG ((a.1.set a.2.2.toNat (a.2.1,b.2.1,b.2.2)).set a.2.2.toNat (c.1,(d.2),c.2.2)) a.2.2).bind fun e=>some (.nxt (((a.1.set a.2.2.toNat (a.2.1,b.2.1,b.2.2)).set a.2.2.toNat (c.1,(d.2),c.2.2)).set a.2.2.toNat (e.1,e.2.1,d.1),i64.wrap (d.1+1),i64.wrap (a.2.2+1)))) else (some (.brk (a.1,a.2.1,a.2.2)))
def gm (b:List Yq3) (c:Int):Option (Int×(List Yq3)):=
 aJ (ak (eA) aP (b,c,0)) (fun r=>some r) (fun a=>some (a.2.1,a.1))
def jR (a:(List Yq2)×(List Yq3)) (d:Int):Option (Int×Yq6):=
 (gQ a.1 d).bind fun b=>(gm a.2 b.1).bind fun c=>some (c.1,(b.2,c.2))
def eB (a:Yq7×Int×Int):Option (Out (Int×Yq7) (Yq7×Int×Int)):=
 if decide (a.2.2<(a.1.length:Int)) then ((aG a.1 a.2.2).bind fun b=>(aG (a.1.set a.2.2.toNat (a.2.1,b.2.1,b.2.2)) a.2.2).bind fun c=>(aG ((a.1.set a.2.2.toNat (a.2.1,b.2.1,b.2.2)).set a.2.2.toNat (c.1,i64.wrap (a.2.1+1),c.2.2)) a.2.2).bind fun d=>some (.nxt (((a.1.set a.2.2.toNat (a.2.1,b.2.1,b.2.2)).set a.2.2.toNat (c.1,i64.wrap (a.2.1+1),c.2.2)).set a.2.2.toNat (d.1,d.2.1,i64.wrap ((i64.wrap (a.2.1+1))+1)),i64.wrap ((i64.wrap ((i64.wrap (a.2.1+1))+1))+1),i64.wrap (a.2.2+1)))) else (some (.brk (a.1,a.2.1,a.2.2)))
def gp (b:List (Int×Int×Int)) (c:Int):Option (Int×Yq7):=
 aJ (ak (eB) aP (b,c,0)) (fun r=>some r) (fun a=>some (a.2.1,a.1))
def jz (a:(Int×Yq4)×Yq6×Yq7×ByteArray) (e:Int):Option (Int×((Int×Yq4)×Yq6×Yq7×ByteArray)):=
 (kZ (a.1.1,a.1.2) e).bind fun c=>(jR (a.2.1.1,a.2.1.2) c.1).bind fun b=>(gp a.2.2.1 b.1).bind fun d=>some (d.1,((a.1.1,c.2.2),(b.2.1,b.2.2),d.2,a.2.2.2))
def jS (a:Yq9×Int×Int):Option (Out (Int×Yq9) (Yq9×Int×Int)):=
 if decide (a.2.2<(a.1.length:Int)) then ((aG a.1 a.2.2).bind fun b=>(aG (a.1.set a.2.2.toNat (a.2.1,b.2)) a.2.2).bind fun c=>some (.nxt ((a.1.set a.2.2.toNat (a.2.1,b.2)).set a.2.2.toNat (c.1,i64.wrap (a.2.1+1)),i64.wrap ((i64.wrap (a.2.1+1))+1),i64.wrap (a.2.2+1)))) else (some (.brk (a.1,a.2.1,a.2.2)))
def k7 (b:List (Int×Int)) (c:Int):Option (Int×Yq9):=
 aJ (ak (jS) aP (b,c,0)) (fun r=>some r) (fun a=>some (a.2.1,a.1))
def jT (b:List (Int×Int)) (a:Int×Int):Option Dq:=
 if decide (a.2<(b.length:Int)) then ((aG b a.2).bind fun c=>if c.1 !=a.1 then (some (.ret (-1))) else ((aG b a.2).bind fun d=>if d.2 !=(i64.wrap (a.1+1)) then (some (.ret (-1))) else (some (.nxt (i64.wrap ((i64.wrap (a.1+1))+1),i64.wrap (a.2+1)))))) else (some (.brk (a.1,a.2)))
def jg (a:List (Int×Int)) (b:Int):Option Int:=
 aJ (ak (jT a) aP (b,0)) (fun r=>some r) (fun c=>some c.1)
def dE (a:(Int×Yq4)×Yq6×Yq7×ByteArray) (i:Int):Option Bool:=
 (oQ ((a.1.1,a.1.2),(a.2.1.1,a.2.1.2),a.2.2.1,a.2.2.2) 1048576).bind fun m=>if decide (m<0) then (some true) else ((iD ((a.1.1,a.1.2),(a.2.1.1,a.2.1.2),a.2.2.1,a.2.2.2)).bind fun c=>(iX ((c.1.1,c.1.2),(c.2.1.1,c.2.1.2),c.2.2.1,c.2.2.2) i).bind fun d=>(iD ((a.1.1,a.1.2),(a.2.1.1,a.2.1.2),a.2.2.1,a.2.2.2)).bind fun b=>(fM ((b.1.1,b.1.2),(b.2.1.1,b.2.1.2),b.2.2.1,b.2.2.2) i).bind fun g=>(oi g.1 d.1).bind fun n=>if n then (if g.2 !=d.2 then (some false) else ((iD ((a.1.1,a.1.2),(a.2.1.1,a.2.1.2),a.2.2.1,a.2.2.2)).bind fun e=>(oY ((b.1.1,b.1.2),(b.2.1.1,b.2.1.2),b.2.2.1,b.2.2.2) ((e.1.1,e.1.2),(e.2.1.1,e.2.1.2),e.2.2.1,e.2.2.2)).bind fun o=>if o then ((jz ((b.1.1,b.1.2),(b.2.1.1,b.2.1.2),b.2.2.1,b.2.2.2) 1).bind fun p=>if decide (p.1<0) then (some false) else ((oi g.1 d.1).bind fun q=>if q then (if g.2 !=d.2 then (some false) else ((k7 g.1 1).bind fun h=>(jg h.2 1).bind fun j=>if decide (j<0) then (some false) else (if j !=h.1 then (some false) else ((iD ((a.1.1,a.1.2),(a.2.1.1,a.2.1.2),a.2.2.1,a.2.2.2)).bind fun f=>(fM ((f.1.1,f.1.2),(f.2.1.1,f.2.1.2),f.2.2.1,f.2.2.2) i).bind fun k=>(oi k.1 d.1).bind fun r=>if r then (if k.2 !=d.2 then (some false) else ((jg h.2 1).bind fun l=>if decide (l<0) then (some false) else (if l !=h.1 then (some false) else (some true)))) else (some false))))) else (some false))) else (some false))) else (some false))
end D
namespace R
open Go.RowKit
open D
abbrev y3:Ty:=.int .i64
abbrev yI:Ty:=.prod y3 (.prod y3 (.prod y3 y3))
abbrev t240:Ty:=.tree 275 240 yI
abbrev abI:Ty:=.prod y3 (.prod y3 (.prod y3 y3))
abbrev aaX:Ty:=.sl 199 abI
abbrev y57:Ty:=.sl 3 y3
abbrev aaY:Ty:=.prod y57 aaX
abbrev y4:Ty:=.bool
abbrev y79:Ty:=.sl 4 y4
abbrev y80:Ty:=.sl 57 y57
abbrev aaZ:Ty:=.prod y3 (.prod y79 y80)
abbrev abJ:Ty:=.prod y3 (.prod y3 (.prod y3 y3))
abbrev aa0:Ty:=.sl 236 abJ
abbrev aa1:Ty:=.wr aa0
abbrev aa2:Ty:=.prod y3 (.prod aa1 y3)
abbrev MI:Ty:=.sl 183 yI
abbrev tT:Ty:=.wr MI
abbrev Hi:Ty:=.prod y3 (.prod tT y3)
abbrev ET:Ty:=.prod y3 (.prod y3 (.prod y3 y3))
abbrev acG:Ty:=.prod y4 ET
abbrev acH:Ty:=.sl 212 acG
abbrev Hj:Ty:=.wr acH
abbrev y9:Ty:=.str
abbrev abK:Ty:=.sl 9 y9
abbrev Lj:Ty:=.prod y57 (.prod y3 (.prod y3 (.prod y57 y4)))
abbrev XY:Ty:=.prod y3 y4
abbrev ZR:Ty:=.prod XY (.prod y3 y3)
abbrev acI:Ty:=.sl 196 ZR
abbrev y22:Ty:=.sl 109 aaY
abbrev acJ:Ty:=.prod y4 (.prod y3 y3)
abbrev acK:Ty:=.sl 194 XY
abbrev acL:Ty:=.prod y3 (.prod y3 y4)
abbrev y24:Ty:=.prod y3 y22
abbrev abL:Ty:=.fro t240
abbrev y25:Ty:=.sl 111 aaZ
abbrev acM:Ty:=.prod XY (.prod y3 y3)
abbrev abM:Ty:=.sl 259 acM
abbrev acN:Ty:=.sl 257 abM
abbrev y26:Ty:=.sl 117 aa2
abbrev ZS:Ty:=.int .u64
abbrev y5:Ty:=.int .u8
abbrev ada:Ty:=.sl 5 y5
abbrev aa3:Ty:=.sl 240 abL
abbrev adb:Ty:=.prod yI aa3
abbrev y28:Ty:=.prod y25 y26
abbrev y93:Ty:=.prod y3 (.prod y3 y3)
abbrev y29:Ty:=.sl 93 y93
abbrev ZT:Ty:=.int .u32
abbrev ZU:Ty:=.int .u64
abbrev y31:Ty:=.prod y24 (.prod y28 (.prod y29 y9))
abbrev y67:Ty:=.prod y3 y3
abbrev y33:Ty:=.sl 67 y67
abbrev y58:Ty:=.sl 129 ET
abbrev y60:Ty:=.prod y57 y58
abbrev y36:Ty:=.sl 60 y60
abbrev y38:Ty:=.prod y3 y36
abbrev y82:Ty:=.prod y3 (.prod y79 y80)
abbrev y39:Ty:=.sl 82 y82
abbrev y40:Ty:=.sl 126 Hi
abbrev y42:Ty:=.prod y39 y40
abbrev y91:Ty:=.prod y3 (.prod y3 y3)
abbrev y43:Ty:=.sl 91 y91
abbrev y45:Ty:=.prod y38 (.prod y42 (.prod y43 y9))
abbrev y96:Ty:=.sl 141 Hj
theorem ti3:TI Tryz.prog 3 false 1:=⟨⟨_,Tryz.underlying3,rfl⟩,by kernel_rfl⟩
theorem ZV (a0:Int) (a1:Int) (a2:Int) (a3:Int) (b0:Int) (b1:Int) (b2:Int) (b3:Int) (w:World):EqT Tryz.prog 183 (.agg #[.int .i64 a0,.int .i64 a1,.int .i64 a2,.int .i64 a3]) (.agg #[.int .i64 b0,.int .i64 b1,.int .i64 b2,.int .i64 b3]) ((a0==b0)&&((a1==b1)&&((a2==b2)&&((a3==b3)&&true)))) w:=Y5 w Tryz.underlying183 (by kernel_rfl) (by kernel_rfl) (zN rfl (yq ti3 rfl) (yq ti3 rfl) (run_equalIn_int w 9998 3 _ _ _ _ Tryz.underlying3) (zN rfl (yq ti3 rfl) (yq ti3 rfl) (run_equalIn_int w 9998 3 _ _ _ _ Tryz.underlying3) (zN rfl (yq ti3 rfl) (yq ti3 rfl) (run_equalIn_int w 9998 3 _ _ _ _ Tryz.underlying3) (zN rfl (yq ti3 rfl) (yq ti3 rfl) (run_equalIn_int w 9998 3 _ _ _ _ Tryz.underlying3) (Wy w)))))
theorem mz3 (w:World):(zeroValue 3).run Tryz.prog w= .ok (.int .i64 0) w:=by kernel_rfl
theorem kk3:KeyOk Tryz.prog 3 (fun n:Int=>Value.int .i64 n) WC iOk:=Y8 Tryz.underlying3
theorem ek3:EltOk Tryz.prog 3 (fun n:Int=>Value.int .i64 n) WC iOk 0:=Y9 Tryz.underlying3 mz3
def tt:TT:=[(3,⟨false,1,none,y3,[],some 8,none,false,none,none,some (some .i64),false,none⟩),
 (4,⟨false,1,none,y4,[],some 1,none,true,none,none,none,false,none⟩),
 (5,⟨false,1,none,y5,[],some 1,none,false,none,none,some (some .u8),false,none⟩),
 (9,⟨false,1,none,y9,[],some 16,none,false,none,none,some none,false,none⟩),
 (22,⟨false,1,some 109,y22,[],some 24,none,false,none,none,none,false,none⟩),
 (24,⟨true,2,none,y24,[(0,0),(1,0)],some 32,some [(0,1),(1,1)],false,none,none,none,false,none⟩),
 (25,⟨false,1,some 111,y25,[],some 24,none,false,none,none,none,false,none⟩),
 (26,⟨false,1,some 117,y26,[],some 24,none,false,none,none,none,false,none⟩),
 (28,⟨true,2,none,y28,[(0,0),(1,0)],some 48,some [(0,1),(1,1)],false,none,none,none,false,none⟩),
 (29,⟨false,1,some 93,y29,[],some 24,none,false,none,none,none,false,none⟩),
 (31,⟨true,6,none,y31,[(0,1),(2,1),(4,0),(5,0)],some 120,some [(0,2),(2,2),(4,1),(5,1)],false,none,none,none,false,none⟩),
 (33,⟨false,1,some 67,y33,[],some 24,none,false,none,none,none,false,none⟩),
 (36,⟨false,1,some 60,y36,[],some 24,none,false,none,none,none,false,none⟩),
 (38,⟨true,2,none,y38,[(0,0),(1,0)],some 32,some [(0,1),(1,1)],false,none,none,none,false,none⟩),
 (39,⟨false,1,some 82,y39,[],some 24,none,false,none,none,none,false,none⟩),
 (40,⟨false,1,some 126,y40,[],some 24,none,false,none,none,none,false,none⟩),
 (42,⟨true,2,none,y42,[(0,0),(1,0)],some 48,some [(0,1),(1,1)],false,none,none,none,false,none⟩),
 (43,⟨false,1,some 91,y43,[],some 24,none,false,none,none,none,false,none⟩),
 (45,⟨true,6,none,y45,[(0,1),(2,1),(4,0),(5,0)],some 120,some [(0,2),(2,2),(4,1),(5,1)],false,none,none,none,false,none⟩),
 (57,⟨false,1,some 3,y57,[],some 24,none,false,none,none,none,false,none⟩),
 (58,⟨false,1,some 129,y58,[],some 24,none,false,none,none,none,false,none⟩),
 (60,⟨true,2,none,y60,[(0,0),(1,0)],some 48,some [(0,1),(1,1)],false,none,none,none,false,none⟩),
 (67,⟨true,2,none,y67,[(0,0),(1,0)],some 16,some [(0,1),(1,1)],false,none,none,none,false,none⟩),
 (79,⟨false,1,some 4,y79,[],some 24,none,false,none,none,none,false,none⟩),
 (80,⟨false,1,some 57,y80,[],some 24,none,false,none,none,none,false,none⟩),
 (82,⟨true,3,none,y82,[(0,0),(1,0),(2,0)],some 56,some [(0,1),(1,1),(2,1)],false,none,none,none,false,none⟩),
 (91,⟨true,3,none,y91,[(0,0),(1,0),(2,0)],some 24,some [(0,1),(1,1),(2,1)],false,none,none,none,false,none⟩),
 (93,⟨true,3,none,y93,[(0,0),(1,0),(2,0)],some 24,some [(0,1),(1,1),(2,1)],false,none,none,none,false,none⟩),
 (96,⟨false,1,some 141,y96,[],some 24,none,false,none,none,none,false,none⟩),
 (107,⟨false,1,some 199,aaX,[],some 24,none,false,none,none,none,false,none⟩),
 (109,⟨true,2,none,aaY,[(0,0),(1,0)],some 48,some [(0,1),(1,1)],false,none,none,none,false,none⟩),
 (111,⟨true,3,none,aaZ,[(0,0),(1,0),(2,0)],some 56,some [(0,1),(1,1),(2,1)],false,none,none,none,false,none⟩),
 (113,⟨false,1,some 236,aa0,[],some 24,none,false,none,none,none,false,none⟩),
 (115,⟨true,1,none,aa1,[(0,0)],some 24,some [(0,1)],false,none,none,none,false,none⟩),
 (117,⟨true,3,none,aa2,[(0,0),(1,0),(2,0)],some 40,some [(0,1),(1,1),(2,1)],false,none,none,none,false,none⟩),
 (122,⟨false,1,some 183,MI,[],some 24,none,false,none,none,none,false,none⟩),
 (124,⟨true,1,none,tT,[(0,0)],some 24,some [(0,1)],false,none,none,none,false,none⟩),
 (126,⟨true,3,none,Hi,[(0,0),(1,0),(2,0)],some 40,some [(0,1),(1,1),(2,1)],false,none,none,none,false,none⟩),
 (129,⟨true,4,none,ET,[(0,0),(1,0),(2,0),(3,0)],some 32,some [(0,1),(1,1),(2,1),(3,1)],false,none,none,none,false,none⟩),
 (135,⟨false,1,none,.bool,[],none,none,false,none,none,none,true,none⟩),
 (137,⟨false,1,none,.bool,[],none,none,false,none,none,none,true,none⟩),
 (139,⟨false,1,some 212,acH,[],some 24,none,false,none,none,none,false,none⟩),
 (141,⟨true,1,none,Hj,[(0,0)],some 24,some [(0,1)],false,none,none,none,false,none⟩),
 (147,⟨false,1,none,.bool,[],none,none,false,none,none,none,true,none⟩),
 (148,⟨false,1,none,.bool,[],none,none,false,none,none,none,true,none⟩),
 (160,⟨false,1,none,.bool,[],none,none,false,none,none,none,true,none⟩),
 (171,⟨false,1,some 9,abK,[],some 24,none,false,none,none,none,false,none⟩),
 (183,⟨true,4,none,yI,[(0,0),(1,0),(2,0),(3,0)],some 32,some [(0,1),(1,1),(2,1),(3,1)],false,some [some .i64,some .i64,some .i64,some .i64],none,none,false,none⟩),
 (186,⟨true,5,none,Lj,[(0,0),(1,0),(2,0),(3,0),(4,0)],some 72,some [(0,1),(1,1),(2,1),(3,1),(4,1)],false,none,none,none,false,none⟩),
 (191,⟨false,1,some 196,acI,[],some 24,none,false,none,none,none,false,none⟩),
 (194,⟨true,2,none,XY,[(0,0),(1,0)],some 16,some [(0,1),(1,1)],false,none,none,none,false,none⟩),
 (196,⟨true,4,none,ZR,[(0,1),(2,0),(3,0)],some 32,some [(0,2),(2,1),(3,1)],false,none,none,none,false,none⟩),
 (199,⟨true,4,none,abI,[(0,0),(1,0),(2,0),(3,0)],some 32,some [(0,1),(1,1),(2,1),(3,1)],false,none,none,none,false,none⟩),
 (212,⟨true,5,none,acG,[(0,0),(1,3)],some 40,some [(0,1),(1,4)],false,none,none,none,false,none⟩),
 (223,⟨true,3,none,acJ,[(0,0),(1,0),(2,0)],some 24,some [(0,1),(1,1),(2,1)],false,none,none,none,false,none⟩),
 (231,⟨false,1,some 194,acK,[],some 24,none,false,none,none,none,false,none⟩),
 (236,⟨true,4,none,abJ,[(0,0),(1,0),(2,0),(3,0)],some 32,some [(0,1),(1,1),(2,1),(3,1)],false,none,none,none,false,none⟩),
 (238,⟨true,3,none,acL,[(0,0),(1,0),(2,0)],some 24,some [(0,1),(1,1),(2,1)],false,none,none,none,false,none⟩),
 (240,⟨false,1,none,abL,[],some 8,none,false,none,none,none,false,some 275⟩),
 (243,⟨false,1,none,.bool,[],none,none,false,none,none,none,true,none⟩),
 (245,⟨false,1,none,.bool,[],none,none,false,none,none,none,true,none⟩),
 (255,⟨false,1,some 257,acN,[],some 24,none,false,none,none,none,false,none⟩),
 (257,⟨false,1,some 259,abM,[],some 24,none,false,none,none,none,false,none⟩),
 (259,⟨true,4,none,acM,[(0,1),(2,0),(3,0)],some 32,some [(0,2),(2,1),(3,1)],false,none,none,none,false,none⟩),
 (263,⟨false,1,none,ZS,[],some 8,none,false,none,none,some (some .u64),false,none⟩),
 (269,⟨false,1,some 5,ada,[],some 24,none,false,none,none,none,false,none⟩),
 (273,⟨false,1,some 240,aa3,[],some 24,none,false,none,none,none,false,none⟩),
 (275,⟨true,5,none,adb,[(0,3),(4,0)],some 56,some [(0,4),(4,1)],false,none,none,none,false,none⟩),
 (279,⟨false,1,none,.bool,[],none,none,false,none,some ⟨3,3,.int,.int⟩,none,false,none⟩),
 (281,⟨false,1,none,.bool,[],none,none,false,none,none,none,true,none⟩),
 (307,⟨false,1,none,ZT,[],some 4,none,false,none,none,some (some .u32),false,none⟩),
 (309,⟨false,1,none,ZU,[],some 8,none,false,none,none,some (some .u64),false,none⟩),
 (343,⟨false,1,none,.bool,[],none,none,false,none,none,none,true,none⟩)]
theorem PY:TTok Tryz.prog tt:=⟨u7 (n:=1) (z:=.int .i64 0) ⟨⟨_,Tryz.underlying3,rfl⟩,by kernel_rfl⟩ rfl (by unfold TZ;kernel_rfl) rfl (a8 rfl) (fun h=>by cases h) (fun k h=>by obtain rfl:=ad h;exact Tryz.underlying3),
 u7 (n:=1) (z:=.bool false) ⟨⟨_,Tryz.underlying4,rfl⟩,by kernel_rfl⟩ rfl (by unfold TZ;kernel_rfl) rfl (a8 rfl) (fun h=>Tryz.underlying4) (fun k h=>by cases h),
 u7 (n:=1) (z:=.int .u8 0) ⟨⟨_,Tryz.underlying5,rfl⟩,by kernel_rfl⟩ rfl (by unfold TZ;kernel_rfl) rfl (a8 rfl) (fun h=>by cases h) (fun k h=>by obtain rfl:=ad h;exact Tryz.underlying5),
 u7 (n:=1) (z:=.string ⟨#[]⟩) ⟨⟨_,Tryz.underlying9,rfl⟩,by kernel_rfl⟩ rfl (by unfold TZ;kernel_rfl) rfl (a8 rfl) (fun h=>by cases h) (fun k h=>by obtain rfl:=ad h;exact Tryz.underlying9),
 mW ⟨⟨_,Tryz.underlying22,rfl⟩,by kernel_rfl⟩ Tryz.underlying22 (by unfold TZ;kernel_rfl),
 ku (z:=.agg #[.int .i64 0,.slice none 0 0]) ⟨⟨_,Tryz.underlying24,rfl⟩,by kernel_rfl⟩ rfl ⟨⟨_,_,Tryz.underlying24,rfl,rfl,by kernel_rfl⟩,⟨_,_,Tryz.underlying24,rfl,rfl,by kernel_rfl⟩,trivial⟩ (by unfold TZ;kernel_rfl) rfl (a8 rfl) ⟨_,Tryz.underlying24,by kernel_rfl⟩ (fun ks h=>by cases h),
 mW ⟨⟨_,Tryz.underlying25,rfl⟩,by kernel_rfl⟩ Tryz.underlying25 (by unfold TZ;kernel_rfl),
 mW ⟨⟨_,Tryz.underlying26,rfl⟩,by kernel_rfl⟩ Tryz.underlying26 (by unfold TZ;kernel_rfl),
 ku (z:=.agg #[.slice none 0 0,.slice none 0 0]) ⟨⟨_,Tryz.underlying28,rfl⟩,by kernel_rfl⟩ rfl ⟨⟨_,_,Tryz.underlying28,rfl,rfl,by kernel_rfl⟩,⟨_,_,Tryz.underlying28,rfl,rfl,by kernel_rfl⟩,trivial⟩ (by unfold TZ;kernel_rfl) rfl (a8 rfl) ⟨_,Tryz.underlying28,by kernel_rfl⟩ (fun ks h=>by cases h),
 mW ⟨⟨_,Tryz.underlying29,rfl⟩,by kernel_rfl⟩ Tryz.underlying29 (by unfold TZ;kernel_rfl),
 ku (z:=.agg #[.int .i64 0,.slice none 0 0,.slice none 0 0,.slice none 0 0,.slice none 0 0,.string ⟨#[]⟩]) ⟨⟨_,Tryz.underlying31,rfl⟩,by kernel_rfl⟩ rfl ⟨⟨_,_,Tryz.underlying31,rfl,rfl,by kernel_rfl⟩,⟨_,_,Tryz.underlying31,rfl,rfl,by kernel_rfl⟩,⟨_,_,Tryz.underlying31,rfl,rfl,by kernel_rfl⟩,⟨_,_,Tryz.underlying31,rfl,rfl,by kernel_rfl⟩,trivial⟩ (by unfold TZ;kernel_rfl) rfl (a8 rfl) ⟨_,Tryz.underlying31,by kernel_rfl⟩ (fun ks h=>by cases h),
 mW ⟨⟨_,Tryz.underlying33,rfl⟩,by kernel_rfl⟩ Tryz.underlying33 (by unfold TZ;kernel_rfl),
 mW ⟨⟨_,Tryz.underlying36,rfl⟩,by kernel_rfl⟩ Tryz.underlying36 (by unfold TZ;kernel_rfl),
 ku (z:=.agg #[.int .i64 0,.slice none 0 0]) ⟨⟨_,Tryz.underlying38,rfl⟩,by kernel_rfl⟩ rfl ⟨⟨_,_,Tryz.underlying38,rfl,rfl,by kernel_rfl⟩,⟨_,_,Tryz.underlying38,rfl,rfl,by kernel_rfl⟩,trivial⟩ (by unfold TZ;kernel_rfl) rfl (a8 rfl) ⟨_,Tryz.underlying38,by kernel_rfl⟩ (fun ks h=>by cases h),
 mW ⟨⟨_,Tryz.underlying39,rfl⟩,by kernel_rfl⟩ Tryz.underlying39 (by unfold TZ;kernel_rfl),
 mW ⟨⟨_,Tryz.underlying40,rfl⟩,by kernel_rfl⟩ Tryz.underlying40 (by unfold TZ;kernel_rfl),
 ku (z:=.agg #[.slice none 0 0,.slice none 0 0]) ⟨⟨_,Tryz.underlying42,rfl⟩,by kernel_rfl⟩ rfl ⟨⟨_,_,Tryz.underlying42,rfl,rfl,by kernel_rfl⟩,⟨_,_,Tryz.underlying42,rfl,rfl,by kernel_rfl⟩,trivial⟩ (by unfold TZ;kernel_rfl) rfl (a8 rfl) ⟨_,Tryz.underlying42,by kernel_rfl⟩ (fun ks h=>by cases h),
 mW ⟨⟨_,Tryz.underlying43,rfl⟩,by kernel_rfl⟩ Tryz.underlying43 (by unfold TZ;kernel_rfl),
 ku (z:=.agg #[.int .i64 0,.slice none 0 0,.slice none 0 0,.slice none 0 0,.slice none 0 0,.string ⟨#[]⟩]) ⟨⟨_,Tryz.underlying45,rfl⟩,by kernel_rfl⟩ rfl ⟨⟨_,_,Tryz.underlying45,rfl,rfl,by kernel_rfl⟩,⟨_,_,Tryz.underlying45,rfl,rfl,by kernel_rfl⟩,⟨_,_,Tryz.underlying45,rfl,rfl,by kernel_rfl⟩,⟨_,_,Tryz.underlying45,rfl,rfl,by kernel_rfl⟩,trivial⟩ (by unfold TZ;kernel_rfl) rfl (a8 rfl) ⟨_,Tryz.underlying45,by kernel_rfl⟩ (fun ks h=>by cases h),
 mW ⟨⟨_,Tryz.underlying57,rfl⟩,by kernel_rfl⟩ Tryz.underlying57 (by unfold TZ;kernel_rfl),
 mW ⟨⟨_,Tryz.underlying58,rfl⟩,by kernel_rfl⟩ Tryz.underlying58 (by unfold TZ;kernel_rfl),
 ku (z:=.agg #[.slice none 0 0,.slice none 0 0]) ⟨⟨_,Tryz.underlying60,rfl⟩,by kernel_rfl⟩ rfl ⟨⟨_,_,Tryz.underlying60,rfl,rfl,by kernel_rfl⟩,⟨_,_,Tryz.underlying60,rfl,rfl,by kernel_rfl⟩,trivial⟩ (by unfold TZ;kernel_rfl) rfl (a8 rfl) ⟨_,Tryz.underlying60,by kernel_rfl⟩ (fun ks h=>by cases h),
 ku (z:=.agg #[.int .i64 0,.int .i64 0]) ⟨⟨_,Tryz.underlying67,rfl⟩,by kernel_rfl⟩ rfl ⟨⟨_,_,Tryz.underlying67,rfl,rfl,by kernel_rfl⟩,⟨_,_,Tryz.underlying67,rfl,rfl,by kernel_rfl⟩,trivial⟩ (by unfold TZ;kernel_rfl) rfl (a8 rfl) ⟨_,Tryz.underlying67,by kernel_rfl⟩ (fun ks h=>by cases h),
 mW ⟨⟨_,Tryz.underlying79,rfl⟩,by kernel_rfl⟩ Tryz.underlying79 (by unfold TZ;kernel_rfl),
 mW ⟨⟨_,Tryz.underlying80,rfl⟩,by kernel_rfl⟩ Tryz.underlying80 (by unfold TZ;kernel_rfl),
 ku (z:=.agg #[.int .i64 0,.slice none 0 0,.slice none 0 0]) ⟨⟨_,Tryz.underlying82,rfl⟩,by kernel_rfl⟩ rfl ⟨⟨_,_,Tryz.underlying82,rfl,rfl,by kernel_rfl⟩,⟨_,_,Tryz.underlying82,rfl,rfl,by kernel_rfl⟩,⟨_,_,Tryz.underlying82,rfl,rfl,by kernel_rfl⟩,trivial⟩ (by unfold TZ;kernel_rfl) rfl (a8 rfl) ⟨_,Tryz.underlying82,by kernel_rfl⟩ (fun ks h=>by cases h),
 ku (z:=.agg #[.int .i64 0,.int .i64 0,.int .i64 0]) ⟨⟨_,Tryz.underlying91,rfl⟩,by kernel_rfl⟩ rfl ⟨⟨_,_,Tryz.underlying91,rfl,rfl,by kernel_rfl⟩,⟨_,_,Tryz.underlying91,rfl,rfl,by kernel_rfl⟩,⟨_,_,Tryz.underlying91,rfl,rfl,by kernel_rfl⟩,trivial⟩ (by unfold TZ;kernel_rfl) rfl (a8 rfl) ⟨_,Tryz.underlying91,by kernel_rfl⟩ (fun ks h=>by cases h),
 ku (z:=.agg #[.int .i64 0,.int .i64 0,.int .i64 0]) ⟨⟨_,Tryz.underlying93,rfl⟩,by kernel_rfl⟩ rfl ⟨⟨_,_,Tryz.underlying93,rfl,rfl,by kernel_rfl⟩,⟨_,_,Tryz.underlying93,rfl,rfl,by kernel_rfl⟩,⟨_,_,Tryz.underlying93,rfl,rfl,by kernel_rfl⟩,trivial⟩ (by unfold TZ;kernel_rfl) rfl (a8 rfl) ⟨_,Tryz.underlying93,by kernel_rfl⟩ (fun ks h=>by cases h),
 mW ⟨⟨_,Tryz.underlying96,rfl⟩,by kernel_rfl⟩ Tryz.underlying96 (by unfold TZ;kernel_rfl),
 mW ⟨⟨_,Tryz.underlying107,rfl⟩,by kernel_rfl⟩ Tryz.underlying107 (by unfold TZ;kernel_rfl),
 ku (z:=.agg #[.slice none 0 0,.slice none 0 0]) ⟨⟨_,Tryz.underlying109,rfl⟩,by kernel_rfl⟩ rfl ⟨⟨_,_,Tryz.underlying109,rfl,rfl,by kernel_rfl⟩,⟨_,_,Tryz.underlying109,rfl,rfl,by kernel_rfl⟩,trivial⟩ (by unfold TZ;kernel_rfl) rfl (a8 rfl) ⟨_,Tryz.underlying109,by kernel_rfl⟩ (fun ks h=>by cases h),
 ku (z:=.agg #[.int .i64 0,.slice none 0 0,.slice none 0 0]) ⟨⟨_,Tryz.underlying111,rfl⟩,by kernel_rfl⟩ rfl ⟨⟨_,_,Tryz.underlying111,rfl,rfl,by kernel_rfl⟩,⟨_,_,Tryz.underlying111,rfl,rfl,by kernel_rfl⟩,⟨_,_,Tryz.underlying111,rfl,rfl,by kernel_rfl⟩,trivial⟩ (by unfold TZ;kernel_rfl) rfl (a8 rfl) ⟨_,Tryz.underlying111,by kernel_rfl⟩ (fun ks h=>by cases h),
 mW ⟨⟨_,Tryz.underlying113,rfl⟩,by kernel_rfl⟩ Tryz.underlying113 (by unfold TZ;kernel_rfl),
 ku (z:=.agg #[.slice none 0 0]) ⟨⟨_,Tryz.underlying115,rfl⟩,by kernel_rfl⟩ rfl ⟨⟨_,_,Tryz.underlying115,rfl,rfl,by kernel_rfl⟩,trivial⟩ (by unfold TZ;kernel_rfl) rfl (a8 rfl) ⟨_,Tryz.underlying115,by kernel_rfl⟩ (fun ks h=>by cases h),
 ku (z:=.agg #[.int .i64 0,.slice none 0 0,.int .i64 0]) ⟨⟨_,Tryz.underlying117,rfl⟩,by kernel_rfl⟩ rfl ⟨⟨_,_,Tryz.underlying117,rfl,rfl,by kernel_rfl⟩,⟨_,_,Tryz.underlying117,rfl,rfl,by kernel_rfl⟩,⟨_,_,Tryz.underlying117,rfl,rfl,by kernel_rfl⟩,trivial⟩ (by unfold TZ;kernel_rfl) rfl (a8 rfl) ⟨_,Tryz.underlying117,by kernel_rfl⟩ (fun ks h=>by cases h),
 mW ⟨⟨_,Tryz.underlying122,rfl⟩,by kernel_rfl⟩ Tryz.underlying122 (by unfold TZ;kernel_rfl),
 ku (z:=.agg #[.slice none 0 0]) ⟨⟨_,Tryz.underlying124,rfl⟩,by kernel_rfl⟩ rfl ⟨⟨_,_,Tryz.underlying124,rfl,rfl,by kernel_rfl⟩,trivial⟩ (by unfold TZ;kernel_rfl) rfl (a8 rfl) ⟨_,Tryz.underlying124,by kernel_rfl⟩ (fun ks h=>by cases h),
 ku (z:=.agg #[.int .i64 0,.slice none 0 0,.int .i64 0]) ⟨⟨_,Tryz.underlying126,rfl⟩,by kernel_rfl⟩ rfl ⟨⟨_,_,Tryz.underlying126,rfl,rfl,by kernel_rfl⟩,⟨_,_,Tryz.underlying126,rfl,rfl,by kernel_rfl⟩,⟨_,_,Tryz.underlying126,rfl,rfl,by kernel_rfl⟩,trivial⟩ (by unfold TZ;kernel_rfl) rfl (a8 rfl) ⟨_,Tryz.underlying126,by kernel_rfl⟩ (fun ks h=>by cases h),
 ku (z:=.agg #[.int .i64 0,.int .i64 0,.int .i64 0,.int .i64 0]) ⟨⟨_,Tryz.underlying129,rfl⟩,by kernel_rfl⟩ rfl ⟨⟨_,_,Tryz.underlying129,rfl,rfl,by kernel_rfl⟩,⟨_,_,Tryz.underlying129,rfl,rfl,by kernel_rfl⟩,⟨_,_,Tryz.underlying129,rfl,rfl,by kernel_rfl⟩,⟨_,_,Tryz.underlying129,rfl,rfl,by kernel_rfl⟩,trivial⟩ (by unfold TZ;kernel_rfl) rfl (a8 rfl) ⟨_,Tryz.underlying129,by kernel_rfl⟩ (fun ks h=>by cases h),
 ER (ty:=.bool) (b:=8) ⟨⟨_,Tryz.underlying135,rfl⟩,by kernel_rfl⟩ rfl (by unfold TZ;kernel_rfl),
 ER (ty:=.bool) (b:=8) ⟨⟨_,Tryz.underlying137,rfl⟩,by kernel_rfl⟩ rfl (by unfold TZ;kernel_rfl),
 mW ⟨⟨_,Tryz.underlying139,rfl⟩,by kernel_rfl⟩ Tryz.underlying139 (by unfold TZ;kernel_rfl),
 ku (z:=.agg #[.slice none 0 0]) ⟨⟨_,Tryz.underlying141,rfl⟩,by kernel_rfl⟩ rfl ⟨⟨_,_,Tryz.underlying141,rfl,rfl,by kernel_rfl⟩,trivial⟩ (by unfold TZ;kernel_rfl) rfl (a8 rfl) ⟨_,Tryz.underlying141,by kernel_rfl⟩ (fun ks h=>by cases h),
 ER (ty:=.bool) (b:=8) ⟨⟨_,Tryz.underlying147,rfl⟩,by kernel_rfl⟩ rfl (by unfold TZ;kernel_rfl),
 ER (ty:=.bool) (b:=8) ⟨⟨_,Tryz.underlying148,rfl⟩,by kernel_rfl⟩ rfl (by unfold TZ;kernel_rfl),
 ER (ty:=.bool) (b:=8) ⟨⟨_,Tryz.underlying160,rfl⟩,by kernel_rfl⟩ rfl (by unfold TZ;kernel_rfl),
 mW ⟨⟨_,Tryz.underlying171,rfl⟩,by kernel_rfl⟩ Tryz.underlying171 (by unfold TZ;kernel_rfl),
 ku (z:=.agg #[.int .i64 0,.int .i64 0,.int .i64 0,.int .i64 0]) ⟨⟨_,Tryz.underlying183,rfl⟩,by kernel_rfl⟩ rfl ⟨⟨_,_,Tryz.underlying183,rfl,rfl,by kernel_rfl⟩,⟨_,_,Tryz.underlying183,rfl,rfl,by kernel_rfl⟩,⟨_,_,Tryz.underlying183,rfl,rfl,by kernel_rfl⟩,⟨_,_,Tryz.underlying183,rfl,rfl,by kernel_rfl⟩,trivial⟩ (by unfold TZ;kernel_rfl) rfl (a8 rfl) ⟨_,Tryz.underlying183,by kernel_rfl⟩ (fun ks h=>by obtain rfl:=ad h;exact fun w a0 b0 a1 b1 a2 b2 a3 b3=>ZV a0 a1 a2 a3 b0 b1 b2 b3 w),
 ku (z:=.agg #[.slice none 0 0,.int .i64 0,.int .i64 0,.slice none 0 0,.bool false]) ⟨⟨_,Tryz.underlying186,rfl⟩,by kernel_rfl⟩ rfl ⟨⟨_,_,Tryz.underlying186,rfl,rfl,by kernel_rfl⟩,⟨_,_,Tryz.underlying186,rfl,rfl,by kernel_rfl⟩,⟨_,_,Tryz.underlying186,rfl,rfl,by kernel_rfl⟩,⟨_,_,Tryz.underlying186,rfl,rfl,by kernel_rfl⟩,⟨_,_,Tryz.underlying186,rfl,rfl,by kernel_rfl⟩,trivial⟩ (by unfold TZ;kernel_rfl) rfl (a8 rfl) ⟨_,Tryz.underlying186,by kernel_rfl⟩ (fun ks h=>by cases h),
 mW ⟨⟨_,Tryz.underlying191,rfl⟩,by kernel_rfl⟩ Tryz.underlying191 (by unfold TZ;kernel_rfl),
 ku (z:=.agg #[.int .i64 0,.bool false]) ⟨⟨_,Tryz.underlying194,rfl⟩,by kernel_rfl⟩ rfl ⟨⟨_,_,Tryz.underlying194,rfl,rfl,by kernel_rfl⟩,⟨_,_,Tryz.underlying194,rfl,rfl,by kernel_rfl⟩,trivial⟩ (by unfold TZ;kernel_rfl) rfl (a8 rfl) ⟨_,Tryz.underlying194,by kernel_rfl⟩ (fun ks h=>by cases h),
 ku (z:=.agg #[.int .i64 0,.bool false,.int .i64 0,.int .i64 0]) ⟨⟨_,Tryz.underlying196,rfl⟩,by kernel_rfl⟩ rfl ⟨⟨_,_,Tryz.underlying196,rfl,rfl,by kernel_rfl⟩,⟨_,_,Tryz.underlying196,rfl,rfl,by kernel_rfl⟩,⟨_,_,Tryz.underlying196,rfl,rfl,by kernel_rfl⟩,trivial⟩ (by unfold TZ;kernel_rfl) rfl (a8 rfl) ⟨_,Tryz.underlying196,by kernel_rfl⟩ (fun ks h=>by cases h),
 ku (z:=.agg #[.int .i64 0,.int .i64 0,.int .i64 0,.int .i64 0]) ⟨⟨_,Tryz.underlying199,rfl⟩,by kernel_rfl⟩ rfl ⟨⟨_,_,Tryz.underlying199,rfl,rfl,by kernel_rfl⟩,⟨_,_,Tryz.underlying199,rfl,rfl,by kernel_rfl⟩,⟨_,_,Tryz.underlying199,rfl,rfl,by kernel_rfl⟩,⟨_,_,Tryz.underlying199,rfl,rfl,by kernel_rfl⟩,trivial⟩ (by unfold TZ;kernel_rfl) rfl (a8 rfl) ⟨_,Tryz.underlying199,by kernel_rfl⟩ (fun ks h=>by cases h),
 ku (z:=.agg #[.bool false,.int .i64 0,.int .i64 0,.int .i64 0,.int .i64 0]) ⟨⟨_,Tryz.underlying212,rfl⟩,by kernel_rfl⟩ rfl ⟨⟨_,_,Tryz.underlying212,rfl,rfl,by kernel_rfl⟩,⟨_,_,Tryz.underlying212,rfl,rfl,by kernel_rfl⟩,trivial⟩ (by unfold TZ;kernel_rfl) rfl (a8 rfl) ⟨_,Tryz.underlying212,by kernel_rfl⟩ (fun ks h=>by cases h),
 ku (z:=.agg #[.bool false,.int .i64 0,.int .i64 0]) ⟨⟨_,Tryz.underlying223,rfl⟩,by kernel_rfl⟩ rfl ⟨⟨_,_,Tryz.underlying223,rfl,rfl,by kernel_rfl⟩,⟨_,_,Tryz.underlying223,rfl,rfl,by kernel_rfl⟩,⟨_,_,Tryz.underlying223,rfl,rfl,by kernel_rfl⟩,trivial⟩ (by unfold TZ;kernel_rfl) rfl (a8 rfl) ⟨_,Tryz.underlying223,by kernel_rfl⟩ (fun ks h=>by cases h),
 mW ⟨⟨_,Tryz.underlying231,rfl⟩,by kernel_rfl⟩ Tryz.underlying231 (by unfold TZ;kernel_rfl),
 ku (z:=.agg #[.int .i64 0,.int .i64 0,.int .i64 0,.int .i64 0]) ⟨⟨_,Tryz.underlying236,rfl⟩,by kernel_rfl⟩ rfl ⟨⟨_,_,Tryz.underlying236,rfl,rfl,by kernel_rfl⟩,⟨_,_,Tryz.underlying236,rfl,rfl,by kernel_rfl⟩,⟨_,_,Tryz.underlying236,rfl,rfl,by kernel_rfl⟩,⟨_,_,Tryz.underlying236,rfl,rfl,by kernel_rfl⟩,trivial⟩ (by unfold TZ;kernel_rfl) rfl (a8 rfl) ⟨_,Tryz.underlying236,by kernel_rfl⟩ (fun ks h=>by cases h),
 ku (z:=.agg #[.int .i64 0,.int .i64 0,.bool false]) ⟨⟨_,Tryz.underlying238,rfl⟩,by kernel_rfl⟩ rfl ⟨⟨_,_,Tryz.underlying238,rfl,rfl,by kernel_rfl⟩,⟨_,_,Tryz.underlying238,rfl,rfl,by kernel_rfl⟩,⟨_,_,Tryz.underlying238,rfl,rfl,by kernel_rfl⟩,trivial⟩ (by unfold TZ;kernel_rfl) rfl (a8 rfl) ⟨_,Tryz.underlying238,by kernel_rfl⟩ (fun ks h=>by cases h),
 abH (e:=275) (E:=240) (u:=yI) ⟨⟨_,Tryz.underlying240,rfl⟩,by kernel_rfl⟩ Tryz.underlying240 (by unfold TZ;kernel_rfl),
 ER (ty:=.bool) (b:=8) ⟨⟨_,Tryz.underlying243,rfl⟩,by kernel_rfl⟩ rfl (by unfold TZ;kernel_rfl),
 ER (ty:=.bool) (b:=8) ⟨⟨_,Tryz.underlying245,rfl⟩,by kernel_rfl⟩ rfl (by unfold TZ;kernel_rfl),
 mW ⟨⟨_,Tryz.underlying255,rfl⟩,by kernel_rfl⟩ Tryz.underlying255 (by unfold TZ;kernel_rfl),
 mW ⟨⟨_,Tryz.underlying257,rfl⟩,by kernel_rfl⟩ Tryz.underlying257 (by unfold TZ;kernel_rfl),
 ku (z:=.agg #[.int .i64 0,.bool false,.int .i64 0,.int .i64 0]) ⟨⟨_,Tryz.underlying259,rfl⟩,by kernel_rfl⟩ rfl ⟨⟨_,_,Tryz.underlying259,rfl,rfl,by kernel_rfl⟩,⟨_,_,Tryz.underlying259,rfl,rfl,by kernel_rfl⟩,⟨_,_,Tryz.underlying259,rfl,rfl,by kernel_rfl⟩,trivial⟩ (by unfold TZ;kernel_rfl) rfl (a8 rfl) ⟨_,Tryz.underlying259,by kernel_rfl⟩ (fun ks h=>by cases h),
 u7 (n:=1) (z:=.int .u64 0) ⟨⟨_,Tryz.underlying263,rfl⟩,by kernel_rfl⟩ rfl (by unfold TZ;kernel_rfl) rfl (a8 rfl) (fun h=>by cases h) (fun k h=>by obtain rfl:=ad h;exact Tryz.underlying263),
 mW ⟨⟨_,Tryz.underlying269,rfl⟩,by kernel_rfl⟩ Tryz.underlying269 (by unfold TZ;kernel_rfl),
 mW ⟨⟨_,Tryz.underlying273,rfl⟩,by kernel_rfl⟩ Tryz.underlying273 (by unfold TZ;kernel_rfl),
 ku (z:=.agg #[.int .i64 0,.int .i64 0,.int .i64 0,.int .i64 0,.slice none 0 0]) ⟨⟨_,Tryz.underlying275,rfl⟩,by kernel_rfl⟩ rfl ⟨⟨_,_,Tryz.underlying275,rfl,rfl,by kernel_rfl⟩,⟨_,_,Tryz.underlying275,rfl,rfl,by kernel_rfl⟩,trivial⟩ (by unfold TZ;kernel_rfl) rfl (a8 rfl) ⟨_,Tryz.underlying275,by kernel_rfl⟩ (fun ks h=>by cases h),
 abG (m:=⟨3,3,.int,.int⟩) (ty:=.bool) ⟨⟨_,Tryz.underlying279,rfl⟩,by kernel_rfl⟩ rfl ⟨Tryz.underlying279,kk3,ek3⟩,
 ER (ty:=.bool) (b:=8) ⟨⟨_,Tryz.underlying281,rfl⟩,by kernel_rfl⟩ rfl (by unfold TZ;kernel_rfl),
 u7 (n:=1) (z:=.int .u32 0) ⟨⟨_,Tryz.underlying307,rfl⟩,by kernel_rfl⟩ rfl (by unfold TZ;kernel_rfl) rfl (a8 rfl) (fun h=>by cases h) (fun k h=>by obtain rfl:=ad h;exact Tryz.underlying307),
 u7 (n:=1) (z:=.int .u64 0) ⟨⟨_,Tryz.underlying309,rfl⟩,by kernel_rfl⟩ rfl (by unfold TZ;kernel_rfl) rfl (a8 rfl) (fun h=>by cases h) (fun k h=>by obtain rfl:=ad h;exact Tryz.underlying309),
 ER (ty:=.bool) (b:=8) ⟨⟨_,Tryz.underlying343,rfl⟩,by kernel_rfl⟩ rfl (by unfold TZ;kernel_rfl),trivial⟩
theorem mixed:Tryz.prog.follows .mixedOrders=true:=by kernel_rfl
def VB (fn:Func):Code:=match fn.body with
 | some c=>c
 | none=>.skip
theorem fk {k:FuncId} {fn:Func} {f:FS} (ft:FT) (hF:FTok Tryz.prog ft) (hf:Tryz.prog.funcs[k]? =some fn) (ann:Ann) (an:List (Nat×Ty):=[]) (tr:Trs:=[]) (hb:fn.body=some (VB fn):=by rfl) (he:(fn.name == "runtime.NumGoroutine")=false:=by kernel_rfl) (hcl:f.cl=none:=by rfl) (hm:Nat.ble f.ps.length fn.ntmps=true:=by rfl) (hdp:(Et f.rs&&zn f.ps)=true:=by rfl)
  (hmod: ∀d,appP f.ps f.m d=lz ⟨tt,ft,an,fn.ntmps,tr⟩ (MG ⟨tt,ft,an,fn.ntmps,tr⟩ fn.results.toList f.rs f.ps d) (VB fn) ann (fun r=>some r) (fun _ _=>none) (MG ⟨tt,ft,an,fn.ntmps,tr⟩ fn.results.toList f.rs f.ps d) (qC (yE f.ps d)):=by intro d;kernel_rfl):FOk Tryz.prog k f:=
 fok (V:=⟨tt,ft,an,fn.ntmps,tr⟩) PY hF mixed hf hb rfl (enters_of hf he hb) hcl (a8 hm) hdp ann hmod
def xC:FS:=⟨[.rd y57,.rd y3],[y3],tG,none⟩
def A2:FS:=⟨[.rd aaX,.rd y3],[y3],u9,none⟩
def A3:FS:=⟨[.rd aaY,.rd y3],[y3],qF,none⟩
def yJ:FS:=⟨[.rd y22,.rd y3],[y3],so,none⟩
def wi:FS:=⟨[.rd y24,.rd y3],[y3],nA,none⟩
def A4:FS:=⟨[.rd y79,.rd y3],[y3],vc,none⟩
def A5:FS:=⟨[.rd y80,.rd y3],[y3],vd,none⟩
def sx:FS:=⟨[.rd aaZ,.rd y3],[y3],kG,none⟩
def rk:FS:=⟨[.rd y25,.rd y3],[y3],mX,none⟩
def yK:FS:=⟨[.rd aa0,.rd y3],[y3],sp,none⟩
def Ds:FS:=⟨[.rd aa1,.rd y3],[y3],tH,none⟩
def rl:FS:=⟨[.rd aa2,.rd y3],[y3],jD,none⟩
def pT:FS:=⟨[.rd y26,.rd y3],[y3],lF,none⟩
def uk:FS:=⟨[.rd y28,.rd y3],[y3],l5,none⟩
def pU:FS:=⟨[.rd y29,.rd y3],[y3],lG,none⟩
def yL:FS:=⟨[.rd y31,.rd y3],[y3],oQ,none⟩
def jU:FS:=⟨[.rd y3,.rd y3,.rd y3],[y4],bV,none⟩
def Dt:FS:=⟨[.rd y60,.rd ET],[y4],Dr,none⟩
def jV:FS:=⟨[.rd y60],[y4],bC,none⟩
def wj:FS:=⟨[.rd y57,.rd y57],[y3],nY,none⟩
def k8:FS:=⟨[.rd y38],[y4],m_s_IsValidHistory,none⟩
def sy:FS:=⟨[.rd y3],[y4],mA,none⟩
def vl:FS:=⟨[.rd yI],[y3],nZ,none⟩
def Du:FS:=⟨[.rd tT],[y4],tI,none⟩
def sA:FS:=⟨[.rd tT],[y4],kH,none⟩
def qT:FS:=⟨[.rd MI],[y3],hZ,none⟩
def qU (n:Nat):FS:=⟨[.rd MI],[y3],dQ n,none⟩
def xD:FS:=⟨[.rd MI],[tT],lH,none⟩
def xE:FS:=⟨[.rd tT,.rd tT,.rd yI],[tT],lI,none⟩
def Dv:FS:=⟨[.rd y3],[tT],tJ,none⟩
def oZ (n:Nat):FS:=⟨[.rd tT,.rd y3,.rd y3],[tT],mB n,none⟩
def nJ (n:Nat):FS:=⟨[.rd MI],[tT],cR n,none⟩
def um:FS:=⟨[.rd tT],[tT,y4],l7,none⟩
def A6:FS:=⟨[.ptr 186 Lj,.rd y3,.rd y3],[],n6,none⟩
def o0 (n:Nat):FS:=⟨[.ptr 186 Lj,.rd MI],[acJ],dn n,none⟩
def o6:FS:=⟨[.rd tT],[Lj,y4],gO,none⟩
def yM:FS:=⟨[.rd Lj,.rd y3,.rd y3],[y3],oS,none⟩
def vm:FS:=⟨[.rd y57,.rd y3],[y3],n7,none⟩
def uo:FS:=⟨[.rd Lj,.rd y3],[y4],l8,none⟩
def uq:FS:=⟨[.rd Lj,.rd y3],[y82,y4],jo,none⟩
def ur:FS:=⟨[],[y82],pA,none⟩
def wk:FS:=⟨[.rd y82,.rd y57,.rd y79],[y82],iS,none⟩
def vn:FS:=⟨[.rd y82],[y79],lJ,none⟩
def Dw:FS:=⟨[.rd y82,.rd y57,.rd y3],[y57],pP,none⟩
def uu:FS:=⟨[.rd y82],[y57],jr,none⟩
def sB:FS:=⟨[.rd y82],[y82],fF,none⟩
def sC:FS:=⟨[.rd tT],[y82,y4],ij,none⟩
def lP:FS:=⟨[.rd y82,.rd y82],[y4],fG,none⟩
def yN:FS:=⟨[.rd y39,.rd y82],[y3],oT,none⟩
def yO:FS:=⟨[.rd y40],[y42,y4],oU,none⟩
def uv:FS:=⟨[.rd tT,.rd tT],[y4],pB,none⟩
def oj:FS:=⟨[.rd y42,.rd y42],[y4],fY,none⟩
def j6:FS:=⟨[.rd y42],[y4],dR,none⟩
def qV:FS:=⟨[.rd y42,.rd y3],[y3],iU,none⟩
def lQ:FS:=⟨[.rd y38],[y3],cD,none⟩
def A7:FS:=⟨[.rd y45],[y4],ve,none⟩
def wm:FS:=⟨[.rd y9,.rd y5],[abK],im,none⟩
def nK:FS:=⟨[.rd y3],[y9],bW,none⟩
def sD:FS:=⟨[.rd y9],[y3,y4],fR,none⟩
def nc:FS:=⟨[.rd y3],[y9],gB,none⟩
def sE:FS:=⟨[.rd y9],[y3,y4],iu,none⟩
def pD:FS:=⟨[.rd ET],[y9],jt,none⟩
def wo:FS:=⟨[.rd y9],[ET,y4],fZ,none⟩
def om:FS:=⟨[.rd Hj],[y9],cT,none⟩
def uw:FS:=⟨[.rd y9],[Hj,y4],fc,none⟩
def yP:FS:=⟨[.rd y9],[y3],fS,none⟩
def rp:FS:=⟨[.rd y3,.rd Hj],[y9],eH,none⟩
def rq:FS:=⟨[.rd y9],[y3,Hj,y4],jF,none⟩
def A8:FS:=⟨[.rd y9],[y57,.sl 141 (.bag Hj),y3],m_s_ScanLog,none⟩
def Dx:FS:=⟨[.rd y45],[y4],xB,none⟩
def pV:FS:=⟨[.rd y45],[y4],iV,none⟩
def A9:FS:=⟨[.rd y82],[y82],qH,none⟩
def o7:FS:=⟨[.rd y42,.rd y3],[y82,y4],dC,none⟩
def Ba:FS:=⟨[.rd y82],[y4],n8,none⟩
def nl:FS:=⟨[.rd y82],[y4],b8,none⟩
def Bb:FS:=⟨[.rd y60,.rd y82,.rd y3,.rd y3],[y4],iw,none⟩
def pE:FS:=⟨[.rd y82,.rd y3,.rd y3],[y3],cr,none⟩
def Dy:FS:=⟨[.rd y60,.rd y3],[acK],pQ,none⟩
def wq:FS:=⟨[.rd y60,.rd y3],[y3],iW,none⟩
def wt:FS:=⟨[.rd ET,.rd y4],[y3],ga,none⟩
def Hk:FS:=⟨[.rd ET,.rd y4],[y3],n9,none⟩
def yQ:FS:=⟨[.rd y60,.rd y82,.rd y3,.rd y3],[acI],mC,none⟩
def yR:FS:=⟨[.rd y60,.rd y82,.rd y3],[y57],mD,none⟩
def ux:FS:=⟨[.rd y60,.rd y82,.rd y3,.rd y3],[y4],jv,none⟩
def Hl:FS:=⟨[.rd y3],[y57],we,none⟩
def Bc:FS:=⟨[.rd y60,.rd y82,.rd y3],[y57],oc,none⟩
def uy:FS:=⟨[.rd y60,.rd y82],[y33],gI,none⟩
def rr:FS:=⟨[.rd y42,.rd y60,.rd y3],[y33,y4],gC,none⟩
def pW:FS:=⟨[.rd y45,.rd y3],[y33,y4],iX,none⟩
def xF:FS:=⟨[.rd y57],[y57],pR,none⟩
def Dz:FS:=⟨[.rd abI],[ET],tK,none⟩
def Bd:FS:=⟨[.rd aaX],[y58],qI,none⟩
def Be:FS:=⟨[.rd aaY],[y60],qJ,none⟩
def yS:FS:=⟨[.rd y22],[y36],oW,none⟩
def wu:FS:=⟨[.rd y24],[y38],nD,none⟩
def Bf:FS:=⟨[.rd y79],[y79],qK,none⟩
def Bg:FS:=⟨[.rd y80],[y80],qL,none⟩
def sF:FS:=⟨[.rd aaZ],[y82],kL,none⟩
def ru:FS:=⟨[.rd y25],[y39],jG,none⟩
def Bh:FS:=⟨[.rd abJ],[yI],qM,none⟩
def yT:FS:=⟨[.rd aa0],[MI],oX,none⟩
def DA:FS:=⟨[.rd aa1],[tT],tL,none⟩
def rv:FS:=⟨[.rd aa2],[Hi],jH,none⟩
def pX:FS:=⟨[.rd y26],[y40],iY,none⟩
def uz:FS:=⟨[.rd y28],[y42],mg,none⟩
def ry:FS:=⟨[.rd y93],[y91],jI,none⟩
def pY:FS:=⟨[.rd y29],[y43],iZ,none⟩
def yU:FS:=⟨[.rd y31],[y45],iD,none⟩
def fN:FS:=⟨[.rd y3,.rd y3,.rd y3],[y4],bD,none⟩
def xG:FS:=⟨[.rd ET,.rd y3],[y4],kd,none⟩
def jW:FS:=⟨[.rd y60],[y4],aW,none⟩
def cY:FS:=⟨[.rd y57,.rd y57],[y4],b6,none⟩
def k9:FS:=⟨[.rd y38],[y4],m_i_IsValidHistory,none⟩
def sG:FS:=⟨[.rd y3],[y4],ke,none⟩
def Bi:FS:=⟨[.rd yI],[y4],qN,none⟩
def bt:FS:=⟨[.rd aa3],[aa3],fun _=>none,some (240,8)⟩
def tU:FS:=⟨[.rd tT],[t240],nS,none⟩
def DB:FS:=⟨[.rd tT],[y4],tM,none⟩
def sH:FS:=⟨[.rd tT],[y4],kN,none⟩
def mx (n:Nat):FS:=⟨[.rd t240],[y3],ct n,none⟩
def Lk:FS:=⟨[.rd y3],[t240],ES,none⟩
def o8 (n:Nat):FS:=⟨[.eat t240,.rd y3,.rd y3],[t240],mF n,none⟩
def ld (n:Nat):FS:=⟨[.rd t240],[t240],bS n,none⟩
def jX (n:Nat):FS:=⟨[.rd t240,.ptr 124 tT],[],bM n,none⟩
def wv:FS:=⟨[.rd t240],[tT],qP,none⟩
def uA:FS:=⟨[.rd tT],[tT,y4],mi,none⟩
def nn:FS:=⟨[.ptr 186 Lj,.rd y3,.rd y3],[],dH,none⟩
def gq (n:Nat):FS:=⟨[.ptr 186 Lj,.rd t240],[acL],bm n,none⟩
def o9:FS:=⟨[.rd tT],[Lj,y4],gP,none⟩
def nf:FS:=⟨[.rd y3,.rd y3,.fn [y3] [y4],.fn [y3,y3] [y3,y4]],[y82,y4],eI,none⟩
def mM:FS:=⟨[.rd Lj,.rd y3],[y4],dw,none⟩
def oo:FS:=⟨[.rd Lj,.rd y3,.rd y3],[y3],gf,none⟩
def pZ:FS:=⟨[.rd y3,.rd y3,.cap 186 Lj],[y3,y4],df,none⟩
def sI:FS:=⟨[.rd Lj,.rd y3],[y82,y4],iE,none⟩
def bz:FS:=⟨[.rd y79],[y79],fun _=>none,some (4,1)⟩
def pa:FS:=⟨[.rd y82],[y79],eR,none⟩
def eC:FS:=⟨[.rd y80,.fn [y57] [y4]],[y3],bO,none⟩
def lA:FS:=⟨[.rd y57,.cap 57 y57],[y4],gM,none⟩
def np:FS:=⟨[.rd y82,.rd y57],[y57,y3],dI,none⟩
def mN:FS:=⟨[.rd y82],[y57],dz,none⟩
def oq:FS:=⟨[.rd ZT,.rd ZT],[ZT,ZT],vf,none⟩
def ot:FS:=⟨[.rd ZU,.rd ZU],[ZU,ZU],od,none⟩
def p7:FS:=⟨[.rd ZS,.rd ZS],[ZS,ZS],pS,none⟩
def dZ:FS:=⟨[.rd y57,.rd y3],[y57],bU,none⟩
def Bj:FS:=⟨[],[y82],vh,none⟩
def jh:FS:=⟨[.rd y57,.rd y3],[y3],eD,none⟩
def kh:FS:=⟨[.rd y3,.cap 57 y57],[y3],aY,none⟩
def kj:FS:=⟨[.rd y3,.cap 82 y82,.capf 281 [y3] [y3]],[y4],cF,none⟩
def gR:FS:=⟨[.rd y82,.rd y3,.rd y3],[y3],bH,none⟩
def kl:FS:=⟨[.rd y3,.rd y3,.cap 82 y82,.capf 281 [y3] [y3],.cap 57 y57],[y3,y4],cG,none⟩
def lB:FS:=⟨[.rd y82],[y82],cm,none⟩
def Hm:FS:=⟨[.rd y82],[y82,y4],A1,none⟩
def sJ:FS:=⟨[.rd tT],[y82,y4],iG,none⟩
def cX:FS:=⟨[.rd y39,.fn [y82] [y4]],[y3],bh,none⟩
def gS:FS:=⟨[.rd y79,.rd y79],[y4],dL,none⟩
def cg:FS:=⟨[.rd y80,.rd y80,.fn [y57,y57] [y4]],[y4],bu,none⟩
def ou:FS:=⟨[.rd y57,.rd y57],[y4],gg,none⟩
def lR:FS:=⟨[.rd y82,.rd y82],[y4],dO,none⟩
def yV:FS:=⟨[.rd y82,.cap 82 y82],[y4],mH,none⟩
def yW:FS:=⟨[.rd tT],[tT],mI,none⟩
def DC:FS:=⟨[.rd y40],[y42,y4],tN,none⟩
def br:FS:=⟨[.rd y39,.rd y39,.fn [y82,y82] [y4]],[y4],aU,none⟩
def bj:FS:=⟨[.rd y40,.rd y40,.fn [Hi,Hi] [y4]],[y4],aQ,none⟩
def fU:FS:=⟨[.rd MI,.rd MI],[y4],dA,none⟩
def uB:FS:=⟨[.rd tT,.rd tT],[y4],mj,none⟩
def rz:FS:=⟨[.rd Hi,.rd Hi],[y4],gD,none⟩
def ox:FS:=⟨[.rd y42,.rd y42],[y4],gi,none⟩
def j7:FS:=⟨[.rd y42],[y4],dV,none⟩
def p8:FS:=⟨[.rd y38],[y3],ja,none⟩
def cK:FS:=⟨[.rd y40,.fn [Hi] [y4]],[y3],bI,none⟩
def sK:FS:=⟨[.rd Hi,.cap 3 y3],[y4],kP,none⟩
def qW:FS:=⟨[.rd y42,.rd y3],[y3],jb,none⟩
def mO:FS:=⟨[.rd y9,.rd y5],[.int .i64],eS,none⟩
def lS:FS:=⟨[.rd y9,.rd y9],[.sl 9 .str],cH,none⟩
def sL:FS:=⟨[.rd y9],[.int .i64,.bool],fT,none⟩
def sM:FS:=⟨[.rd y9,.rd y9],[.str,.str,.bool],cW,none⟩
def rA:FS:=⟨[.rd y3],[.str],mZ,none⟩
def qX:FS:=⟨[.rd y3],[y9],dj,none⟩
def pF:FS:=⟨[.rd ET],[y9],jx,none⟩
def wx:FS:=⟨[.rd y9],[ET,y4],gj,none⟩
def rB:FS:=⟨[.rd abK,.rd y9],[.str],jJ,none⟩
def oy:FS:=⟨[.rd Hj],[y9],dW,none⟩
def uC:FS:=⟨[.rd y9],[Hj,y4],fe,none⟩
def yX:FS:=⟨[.rd y9],[y3],kg,none⟩
def rC:FS:=⟨[.rd y3,.rd Hj],[y9],gE,none⟩
def rD:FS:=⟨[.rd y9],[y3,Hj,y4],jK,none⟩
def Bk:FS:=⟨[.rd y9],[y57,.sl 141 (.bag Hj),y3],m_i_ScanLog,none⟩
def p9:FS:=⟨[.rd y45],[y4],jc,none⟩
def sN:FS:=⟨[.rd y57],[y57],mJ,none⟩
def qa:FS:=⟨[.rd y82],[y82],jd,none⟩
def pb:FS:=⟨[.rd y42,.rd y3],[y82,y4],eU,none⟩
def nr:FS:=⟨[.rd y82],[y4],bP,none⟩
def xH:FS:=⟨[.rd y60,.rd y82,.rd y57],[y4],cn,none⟩
def DD:FS:=⟨[.rd y80,.rd y57],[y57],tO,none⟩
def qY:FS:=⟨[.rd y3],[y57],iH,none⟩
def Hn:FS:=⟨[.rd ET,.rd y4],[y3],sq,none⟩
def Ll:FS:=⟨[.rd y60],[acN],wg,none⟩
def vo:FS:=⟨[.rd y82,.rd y3,.rd y3],[y3],j5,none⟩
def Ho:FS:=⟨[.rd y82,.rd y3,.rd y3,.rd y3],[y3],su,none⟩
def rE:FS:=⟨[.rd y60,.rd y82],[y80],eJ,none⟩
def qb:FS:=⟨[.rd y60,.rd y82,.rd y3],[y57],fK,some (0,7)⟩
def wz:FS:=⟨[.rd y82,.rd y3,.rd y3],[y4],kT,none⟩
def jA:FS:=⟨[.ow (.sl 3 y3)],[],ff,none⟩
def gT:FS:=⟨[.eat (.sl 3 y3)],[.sl 3 y3],cJ,none⟩
def wA:FS:=⟨[.rd y57],[y57],kU,none⟩
def sO:FS:=⟨[.rd y60,.rd y82,.rd y3],[y57],iJ,none⟩
def uD:FS:=⟨[.rd y60,.rd y82],[y33],fg,none⟩
def rF:FS:=⟨[.rd y42,.rd y60,.rd y3],[y33,y4],gF,none⟩
def wB:FS:=⟨[.rd y45],[.fro y60],qQ,none⟩
def qc:FS:=⟨[.rd y45,.rd y3],[y33,y4],fM,none⟩
def DE:FS:=⟨[.rd y67,.rd y67],[y4],tP,none⟩
def Bl:FS:=⟨[.rd y33,.rd y33],[y4],oi,none⟩
def xI:FS:=⟨[.rd y57,.rd y57],[y4],tQ,none⟩
def DF:FS:=⟨[.rd ET,.rd ET],[y4],tR,none⟩
def Bm:FS:=⟨[.rd y58,.rd y58],[y4],vi,none⟩
def Bn:FS:=⟨[.rd y60,.rd y60],[y4],qR,none⟩
def yY:FS:=⟨[.rd y36,.rd y36],[y4],sv,none⟩
def wC:FS:=⟨[.rd y38,.rd y38],[y4],nF,none⟩
def Bo:FS:=⟨[.rd y79,.rd y79],[y4],vj,none⟩
def Bp:FS:=⟨[.rd y80,.rd y80],[y4],vk,none⟩
def sP:FS:=⟨[.rd y82,.rd y82],[y4],kW,none⟩
def rG:FS:=⟨[.rd y39,.rd y39],[y4],na,none⟩
def Bq:FS:=⟨[.rd yI,.rd yI],[y4],qS,none⟩
def yZ:FS:=⟨[.rd MI,.rd MI],[y4],sw,none⟩
def DG:FS:=⟨[.rd tT,.rd tT],[y4],tS,none⟩
def rH:FS:=⟨[.rd Hi,.rd Hi],[y4],jM,none⟩
def qd:FS:=⟨[.rd y40,.rd y40],[y4],lN,none⟩
def uE:FS:=⟨[.rd y42,.rd y42],[y4],mr,none⟩
def rI:FS:=⟨[.rd y91,.rd y91],[y4],jN,none⟩
def qe:FS:=⟨[.rd y43,.rd y43],[y4],lO,none⟩
def y6:FS:=⟨[.rd y45,.rd y45],[y4],oY,none⟩
def sQ:FS:=⟨[.ow y57,.rd y3],[y3],mL,none⟩
def wD:FS:=⟨[.ow y58,.rd y3],[y3],nG,none⟩
def uF:FS:=⟨[.ow y36,.rd y3],[y3],mu,none⟩
def sR:FS:=⟨[.ow y38,.rd y3],[y3],kZ,none⟩
def wE:FS:=⟨[.ow y79,.rd y3],[y3],nH,none⟩
def wF:FS:=⟨[.ow y80,.rd y3],[y3],nI,none⟩
def pc:FS:=⟨[.ow y39,.rd y3],[y3],gQ,none⟩
def uG:FS:=⟨[.ow MI,.rd y3],[y3],mw,none⟩
def oz:FS:=⟨[.ow y40,.rd y3],[y3],gm,none⟩
def rJ:FS:=⟨[.ow y42,.rd y3],[y3],jR,none⟩
def oA:FS:=⟨[.ow y43,.rd y3],[y3],gp,none⟩
def uH:FS:=⟨[.ow y45,.rd y3],[y3],jz,none⟩
def wG:FS:=⟨[.ow y33,.rd y3],[y3],k7,none⟩
def wH:FS:=⟨[.rd y33,.rd y3],[y3],jg,none⟩
def qf:FS:=⟨[.rd y31,.rd y3],[y4],dE,none⟩
end R
namespace R
open Go.RowKit
open D
theorem DH:FOk Tryz.prog 97 xC:=fk [] trivial Tryz.func97 .no
theorem Jf:FOk Tryz.prog 98 A2:=fk [] trivial Tryz.func98 .no
theorem Jg:FOk Tryz.prog 61 A3:=fk [(97,xC),(98,A2)] ⟨DH,Jf,trivial⟩ Tryz.func61 .no
theorem Hq:FOk Tryz.prog 31 yJ:=fk [(61,A3)] ⟨Jg,trivial⟩ Tryz.func31 (.t (.t (.t (.two (.t (.loop [.s 1,.s 5] .no)) .no))))
theorem EU:FOk Tryz.prog 13 wi:=fk [(31,yJ)] ⟨Hq,trivial⟩ Tryz.func13 .no
theorem Jh:FOk Tryz.prog 99 A4:=fk [] trivial Tryz.func99 .no
theorem Ji:FOk Tryz.prog 100 A5:=fk [(97,xC)] ⟨DH,trivial⟩ Tryz.func100 (.t (.t (.t (.two (.t (.loop [.s 1,.s 5] .no)) .no))))
theorem Br:FOk Tryz.prog 62 sx:=fk [(99,A4),(100,A5)] ⟨Jh,Ji,trivial⟩ Tryz.func62 .no
theorem zp:FOk Tryz.prog 32 rk:=fk [(62,sx)] ⟨Br,trivial⟩ Tryz.func32 (.t (.t (.t (.two (.t (.loop [.s 1,.s 5] .no)) .no))))
theorem Hr:FOk Tryz.prog 140 yK:=fk [] trivial Tryz.func140 .no
theorem MJ:FOk Tryz.prog 101 Ds:=fk [(140,yK)] ⟨Hr,trivial⟩ Tryz.func101 .no
theorem zq:FOk Tryz.prog 63 rl:=fk [(101,Ds)] ⟨MJ,trivial⟩ Tryz.func63 .no
theorem xJ:FOk Tryz.prog 33 pT:=fk [(63,rl)] ⟨zq,trivial⟩ Tryz.func33 (.t (.t (.t (.two (.t (.loop [.s 1,.s 5] .no)) .no))))
theorem Cs:FOk Tryz.prog 14 uk:=fk [(32,rk),(33,pT)] ⟨zp,xJ,trivial⟩ Tryz.func14 .no
theorem xK:FOk Tryz.prog 15 pU:=fk [] trivial Tryz.func15 .no
theorem Hs:FOk Tryz.prog 4 yL:=fk [(13,wi),(14,uk),(15,pU)] ⟨EU,Cs,xK,trivial⟩ Tryz.func4 .no
theorem lf:FOk Tryz.prog 65 jU:=fk [] trivial Tryz.func65 .no
end R
namespace R
open Go.RowKit
open D
theorem ML:FOk Tryz.prog 72 Dt:=fk [(65,jU)] ⟨lf,trivial⟩ Tryz.func72 .no
theorem ng:FOk Tryz.prog 39 jV:=fk [(65,jU),(72,Dt)] ⟨lf,ML,trivial⟩ Tryz.func39 (.t (.two (.t (.loop [.s 3] .no)) (.two (.t (.loop [.s 4] .no)) .no)))
theorem Bs:FOk Tryz.prog 64 wj:=fk [] trivial Tryz.func64 (.t (.two (.t (.loop [.s 5] .no)) .no))
theorem pd:FOk Tryz.prog 34 k8:=fk [(39,jV),(64,wj),(65,jU)] ⟨ng,Bs,lf,trivial⟩ Tryz.func34 (.t (.two (.t (.loop [.s 3] .no)) .no))
theorem y7:FOk Tryz.prog 300 sy:=fk [(65,jU)] ⟨lf,trivial⟩ Tryz.func300 .no
theorem Bt:FOk Tryz.prog 271 vl:=fk [(65,jU),(300,sy)] ⟨lf,y7,trivial⟩ Tryz.func271 (.t (.two (.t (.join [.slot 5 .boo] .no (.t (.t (.t (.join [.slot 37 .boo] .no .no)))))) .no))
theorem MM:FOk Tryz.prog 268 Du:=fk [(271,vl)] ⟨Bt,trivial⟩ Tryz.func268 (.t (.t (.two (.t (.loop [.s 3,.s 4] .no)) .no)))
theorem Bu:FOk Tryz.prog 218 sA:=fk [(268,Du)] ⟨MM,trivial⟩ Tryz.func218 .no
theorem vp:FOk Tryz.prog 221 qT:=fk [(271,vl)] ⟨Bt,trivial⟩ Tryz.func221 (.t (.t (.t (.two (.loop [.s 3,.s 4] .no) .no))))
theorem Bv: ∀n,FOk Tryz.prog 219 (qU n)
 | 0=>kE (f:=qU 0) (enters_of Tryz.func219 (by kernel_rfl) rfl) rfl (fun d=>rfl)
 | n+1=>by
  have ih:=Bv n
  exact fk [(219,(qU n)),(221,qT)] ⟨ih,vp,trivial⟩ Tryz.func219 (.t (.t (.t (.two (.t (.two (.t (.at [.slot 15 .boo] .no)) .no)) .no))))
theorem DI:FOk Tryz.prog 104 xD:=fk [] trivial Tryz.func104 .no
theorem DJ:FOk Tryz.prog 269 xE:=fk [(104,xD)] ⟨DI,trivial⟩ Tryz.func269 .no
theorem MN:FOk Tryz.prog 299 Dv:=fk [] trivial Tryz.func299 .no
theorem y8: ∀n,FOk Tryz.prog 270 (oZ n)
 | 0=>kE (f:=oZ 0) (enters_of Tryz.func270 (by kernel_rfl) rfl) rfl (fun d=>rfl)
 | n+1=>by
  have ih:=y8 n
  exact fk [(269,xE),(270,(oZ n)),(299,Dv)] ⟨DJ,ih,MN,trivial⟩ Tryz.func270 .no
theorem wI: ∀n,FOk Tryz.prog 220 (nJ n)
 | 0=>kE (f:=nJ 0) (enters_of Tryz.func220 (by kernel_rfl) rfl) rfl (fun d=>rfl)
 | n+1=>by
  have ih:=wI n
  exact fk [(220,(nJ n)),(221,qT),(269,xE),(270,(oZ gx))] ⟨ih,vp,DJ,(y8 gx),trivial⟩ Tryz.func220 (.t (.t (.t (.two (.t (.two (.t (.at [.slot 15 .boo] .no)) .no)) .no))))
theorem Ct:FOk Tryz.prog 176 um:=fk [(218,sA),(219,(qU gx)),(220,(nJ gx))] ⟨Bu,(Bv gx),(wI gx),trivial⟩ Tryz.func176 .no
theorem Jj:FOk Tryz.prog 222 A6:=fk [] trivial Tryz.func222 (.t (.loop [.s 6,.par 4 [3] 3 y3] (.t (.two (.at [.par 4 [3] 3 y3] .no) .no))))
end R
namespace R
open Go.RowKit
open D
theorem za: ∀n,FOk Tryz.prog 177 (o0 n)
 | 0=>kE (f:=o0 0) (enters_of Tryz.func177 (by kernel_rfl) rfl) rfl (fun d=>rfl)
 | n+1=>by
  have ih:=za n
  exact fk [(177,(o0 n)),(221,qT),(222,A6)] ⟨ih,vp,Jj,trivial⟩ Tryz.func177 (.t (.t (.t (.two (.t (.t (.t (.t (.t (.t (.two (.t (.t (.t (.t (.t (.two (.t (.at [.box 11 [.boo,(.num .i64),(.num .i64)]] .no)) (.two (.t (.at [.box 11 [.boo,(.num .i64),(.num .i64)]] .no)) .no))))))) .no))))))) .no))))
theorem wJ:FOk Tryz.prog 141 o6:=fk [(176,um),(177,(o0 gx))] ⟨Ct,(za gx),trivial⟩ Tryz.func141 (.t (.t (.t (.t (.two (.t (.loop [.s 6,.s 7] (.t (.two (.at [.s 6] .no) .no)))) .no)))))
theorem Ht:FOk Tryz.prog 178 yM:=fk [] trivial Tryz.func178 (.t (.t (.join [.s 7] .no (.two (.t (.loop [.s 7,.s 8] (.t (.join [.s 7] .no .no)))) (.t (.two (.t (.loop [.s 9,.s 10] (.t (.join [.s 9] .no .no)))) .no))))))
theorem Bw:FOk Tryz.prog 179 vm:=fk [] trivial Tryz.func179 (.t (.two (.t (.loop [.s 5] .no)) .no))
theorem Cu:FOk Tryz.prog 180 uo:=fk [] trivial Tryz.func180 .no
theorem Cv:FOk Tryz.prog 142 uq:=fk [(178,yM),(179,vm),(180,uo)] ⟨Ht,Bw,Cu,trivial⟩ Tryz.func142 (.t (.t (.t (.two (.t (.loop [.slot 7 (.own 3 y3),.s 8,.box 6 [(.num .i64),(.own 4 y4),(.own 57 y57)]] (.t (.two (.t (.two (.t (.loop [.slot 7 (.own 3 y3),.slot 9 (.own 3 y3),.s 10] (.t (.two (.t (.t (.join [.slot 7 (.own 3 y3),.s 12] .no .no))) .no)))) .no)) .no)))) .no))))
theorem Cw:FOk Tryz.prog 223 ur:=fk [] trivial Tryz.func223 (.t (.t (.two (.t (.loop [.slot 1 (.own 3 y3),.s 2] .no)) .no)))
theorem EV:FOk Tryz.prog 181 wk:=fk [(179,vm),(223,ur)] ⟨Bw,Cw,trivial⟩ Tryz.func181 (.t (.t (.t (.t (.t (.two (.t (.loop [.slot 8 (.own 3 y3),.slot 9 (.own 3 y3),.s 10,.box 7 [(.num .i64),(.own 4 y4),(.own 57 y57)]] (.t (.two (.t (.two (.t (.loop [.slot 8 (.own 3 y3),.slot 9 (.own 3 y3),.slot 11 (.own 3 y3),.s 12] (.t (.two (.t (.t (.join [.slot 8 (.own 3 y3),.slot 9 (.own 3 y3),.s 14] .no .no))) .no)))) .no)) .no)))) .no))))))
theorem Bx:FOk Tryz.prog 183 vn:=fk [] trivial Tryz.func183 (.t (.t (.two (.t (.loop [.row 3 4 y4,.s 4] (.t (.two (.t (.loop [.row 3 4 y4,.s 5] (.t (.two (.t (.loop [.row 3 4 y4,.s 6] (.t (.join [.row 3 4 y4] .no .no)))) .no)))) .no)))) .no)))
theorem MO:FOk Tryz.prog 224 Dw:=fk [] trivial Tryz.func224 (.t (.t (.two (.t (.loop [.slot 7 (.own 3 y3),.s 8] (.t (.join [.slot 7 (.own 3 y3)] .no .no)))) .no)))
theorem Cx:FOk Tryz.prog 182 uu:=fk [(64,wj),(183,vn),(224,Dw)] ⟨Bs,Bx,MO,trivial⟩ Tryz.func182 (.t (.t (.t (.two (.t (.loop [.slot 4 (.own 3 y3),.s 5] (.t (.two (.t (.two (.t (.at [.s 6] .no)) (.two (.t (.at [.s 6] .no)) .no))) .no)))) (.two (.t (.loop [.slot 4 (.own 3 y3),.s 7] (.t (.two (.t (.t (.two (.t (.loop [.slot 8 (.own 57 y57),.slot 9 (.own 3 y3),.s 10] (.t (.two (.at [.slot 8 (.own 57 y57),.slot 9 (.own 3 y3)] (.t (.t (.t (.two (.t (.loop [.s 12,.s 13] (.t (.two (.at [.s 12] .no) .no)))) (.two (.t (.at [.slot 8 (.own 57 y57),.s 12,.gone 11] .no)) .no)))))) .no)))) .no))) .no)))) .no)))))
theorem By:FOk Tryz.prog 143 sB:=fk [(181,wk),(182,uu),(183,vn)] ⟨EV,Cx,Bx,trivial⟩ Tryz.func143 .no
theorem Bz:FOk Tryz.prog 102 sC:=fk [(141,o6),(142,uq),(143,sB)] ⟨wJ,Cv,By,trivial⟩ Tryz.func102 .no
theorem qg:FOk Tryz.prog 105 lP:=fk [(64,wj)] ⟨Bs,trivial⟩ Tryz.func105 (.t (.t (.two (.t (.loop [.s 5] .no)) (.two (.t (.loop [.s 6] .no)) .no))))
theorem Hu:FOk Tryz.prog 103 yN:=fk [(105,lP)] ⟨qg,trivial⟩ Tryz.func103 (.t (.two (.t (.loop [.s 5] .no)) .no))
theorem Hv:FOk Tryz.prog 66 yO:=fk [(65,jU),(102,sC),(103,yN),(104,xD)] ⟨lf,Bz,Hu,DI,trivial⟩ Tryz.func66 (.t (.t (.t (.two (.t (.loop [.s 5,.box 4 [(.own 82 y82),(.own 126 Hi)]] (.t (.two (.t (.t (.t (.join [.s 8,.box 4 [(.own 82 y82),(.own 126 Hi)],.gone 6] .no .no)))) .no)))) .no))))
theorem Cy:FOk Tryz.prog 106 uv:=fk [] trivial Tryz.func106 (.t (.t (.two (.t (.loop [.s 5] .no)) .no)))
end R
namespace R
open Go.RowKit
open D
theorem vq:FOk Tryz.prog 67 oj:=fk [(105,lP),(106,uv)] ⟨qg,Cy,trivial⟩ Tryz.func67 (.t (.t (.two (.t (.loop [.s 5] .no)) (.two (.t (.loop [.s 6] .no)) .no))))
theorem oB:FOk Tryz.prog 35 j6:=fk [(66,yO),(67,oj)] ⟨Hv,vq,trivial⟩ Tryz.func35 .no
theorem wK:FOk Tryz.prog 68 qV:=fk [] trivial Tryz.func68 (.t (.two (.t (.loop [.s 5] .no)) .no))
theorem qi:FOk Tryz.prog 69 lQ:=fk [(34,k8)] ⟨pd,trivial⟩ Tryz.func69 .no
theorem Jk:FOk Tryz.prog 36 A7:=fk [(65,jU),(68,qV),(69,lQ)] ⟨lf,wK,qi,trivial⟩ Tryz.func36 (.t (.two (.t (.loop [.s 3] .no)) .no))
theorem BA:FOk Tryz.prog 144 wm:=fk [] trivial Tryz.func144 (.t (.t (.t (.two (.t (.loop [.slot 5 (.own 9 y9),.s 6,.s 7] (.t (.two (.at [.slot 5 (.own 9 y9),.s 6] .no) .no)))) .no))))
theorem qZ:FOk Tryz.prog 184 nK:=fk [] trivial Tryz.func184 (.t (.t (.t (.t (.two (.loop [.s 0,.slot 3 .str] (.t (.t (.two (.t (.at [.s 5] .no)) .no)))) .no)))))
theorem zb:FOk Tryz.prog 145 sD:=fk [(184,nK)] ⟨qZ,trivial⟩ Tryz.func145 (.t (.t (.t (.two (.t (.loop [.s 4,.s 5,.s 6] (.t (.two (.at [.s 4,.s 5] .no) .no)))) (.two (.t (.at [.s 4] .no)) .no)))))
theorem rK:FOk Tryz.prog 272 nc:=fk [(300,sy)] ⟨y7,trivial⟩ Tryz.func272 .no
theorem BB:FOk Tryz.prog 225 sE:=fk [(272,nc)] ⟨rK,trivial⟩ Tryz.func225 (.t (.two (.t (.loop [.s 4] .no)) .no))
theorem uI:FOk Tryz.prog 226 pD:=fk [(65,jU),(184,nK),(272,nc)] ⟨lf,qZ,rK,trivial⟩ Tryz.func226 .no
theorem EW:FOk Tryz.prog 185 wo:=fk [(144,wm),(145,sD),(225,sE),(226,pD)] ⟨BA,zb,BB,uI,trivial⟩ Tryz.func185 .no
theorem sS:FOk Tryz.prog 186 om:=fk [(226,pD)] ⟨uI,trivial⟩ Tryz.func186 (.t (.t (.t (.two (.t (.loop [.slot 3 .str,.s 4] (.t (.two (.atX [.slot 3 .str] (.t (.t (.two (.t (.at [.slot 3 .str] .no)) .no)))) .no)))) .no))))
theorem Cz:FOk Tryz.prog 146 uw:=fk [(144,wm),(185,wo),(186,om)] ⟨BA,EW,sS,trivial⟩ Tryz.func146 (.t (.t (.t (.t (.two (.t (.loop [.s 6,.box 4 [(.own 212 (.prod y4 ET))]] .no)) .no)))))
theorem Hw:FOk Tryz.prog 187 yP:=fk [] trivial Tryz.func187 (.t (.t (.two (.t (.loop [.s 3,.s 4] .no)) .no)))
theorem zr:FOk Tryz.prog 147 rp:=fk [(65,jU),(184,nK),(186,om),(187,yP)] ⟨lf,qZ,sS,Hw,trivial⟩ Tryz.func147 .no
theorem zt:FOk Tryz.prog 107 rq:=fk [(144,wm),(145,sD),(146,uw),(147,rp)] ⟨BA,zb,Cz,zr,trivial⟩ Tryz.func107 .no
end R
namespace R
open Go.RowKit
open D
theorem Jl:FOk Tryz.prog 70 A8:=Lf (ps:=[.rd y9]) (A:=y57) (E:=141) (t:=Hj) (B:=y3) (m:=m_s_ScanLog) (fk [(107,rq)] ⟨zt,trivial⟩ Tryz.func70 (.t (.t (.t (.t (.two (.t (.loop [.slot 5 (.own 3 y3),.slot 6 (.own 141 Hj),.s 7,.s 8] (.t (.two (.atX [.slot 5 (.own 3 y3),.slot 6 (.own 141 Hj),.s 7] .no) .no)))) .no))))))
theorem MP:FOk Tryz.prog 37 Dx:=fk [(69,lQ),(70,A8)] ⟨qi,Jl,trivial⟩ Tryz.func37 .no
theorem xL:FOk Tryz.prog 16 pV:=fk [(34,k8),(35,j6),(36,A7),(37,Dx)] ⟨pd,oB,Jk,MP,trivial⟩ Tryz.func16 .no
theorem Jm:FOk Tryz.prog 71 A9:=fk [] trivial Tryz.func71 (.t (.t (.two (.t (.loop [.s 4,.box 3 [(.num .i64),(.own 4 y4),(.own 57 y57)]] .no)) .no)))
theorem wL:FOk Tryz.prog 38 o7:=fk [(35,j6),(68,qV),(71,A9)] ⟨oB,wK,Jm,trivial⟩ Tryz.func38 .no
theorem Jn:FOk Tryz.prog 148 Ba:=fk [(65,jU)] ⟨lf,trivial⟩ Tryz.func148 (.t (.t (.t (.two (.t (.loop [.s 4] (.t (.two (.t (.t (.loop [.s 5] .no))) .no)))) .no))))
theorem ud:FOk Tryz.prog 108 nl:=fk [(148,Ba)] ⟨Jn,trivial⟩ Tryz.func108 .no
theorem Jo:FOk Tryz.prog 73 Bb:=fk [(39,jV),(65,jU),(108,nl)] ⟨ng,lf,ud,trivial⟩ Tryz.func73 .no
theorem uJ:FOk Tryz.prog 150 pE:=fk [] trivial Tryz.func150 (.t (.t (.two (.loop [.s 1,.s 7] .no) .no)))
theorem MQ:FOk Tryz.prog 188 Dy:=fk [] trivial Tryz.func188 (.t (.t (.two (.t (.loop [.slot 5 (.own 194 XY),.s 6] (.t (.join [.slot 5 (.own 194 XY)] (.join [.slot 5 (.own 194 XY)] .no .no) .no)))) .no)))
theorem EX:FOk Tryz.prog 189 wq:=fk [] trivial Tryz.func189 (.t (.two (.t (.loop [.s 5] .no)) .no))
theorem EY:FOk Tryz.prog 190 wt:=fk [] trivial Tryz.func190 .no
theorem PZ:FOk Tryz.prog 191 Hk:=fk [] trivial Tryz.func191 .no
theorem Hx:FOk Tryz.prog 149 yQ:=fk [(150,pE),(188,Dy),(189,wq),(190,wt),(191,Hk)] ⟨uJ,MQ,EX,EY,PZ,trivial⟩ Tryz.func149 (.t (.t (.t (.t (.two (.t (.loop [.slot 9 (.own 196 ZR),.s 12] (.t (.two (.t (.t (.two (.t (.loop [.s 14,.s 15] (.t (.join [.s 14] .no .no)))) (.t (.loop [.slot 9 (.own 196 ZR),.s 17] (.t (.join [.slot 9 (.own 196 ZR)] .no .no))))))) .no)))) .no)))))
theorem Hy:FOk Tryz.prog 109 yR:=fk [(149,yQ)] ⟨Hx,trivial⟩ Tryz.func109 (.t (.t (.t (.two (.t (.loop [.slot 8 (.own 3 y3),.s 9] .no)) (.t (.t (.two (.t (.loop [.row 8 3 y3,.slot 10 (.own 3 y3),.s 11] (.t (.two (.t (.t (.loop [.row 8 3 y3,.slot 10 (.own 3 y3),.s 13] (.t (.join [.row 8 3 y3,.slot 10 (.own 3 y3)] .no .no))))) .no)))) .no)))))))
theorem CA:FOk Tryz.prog 110 ux:=fk [(150,pE)] ⟨uJ,trivial⟩ Tryz.func110 (.t (.t (.two (.t (.loop [.s 10] .no)) .no)))
theorem P0:FOk Tryz.prog 111 Hl:=fk [] trivial Tryz.func111 (.t (.t (.two (.t (.loop [.slot 3 (.own 3 y3),.s 4] (.t (.join [.slot 3 (.own 3 y3)] .no .no)))) .no)))
end R
end Go.Proofs.YtfkokkokjgjkgaaGreatDoor
