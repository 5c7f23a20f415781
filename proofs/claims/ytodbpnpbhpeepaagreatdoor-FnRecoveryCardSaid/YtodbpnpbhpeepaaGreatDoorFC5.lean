/- FnRecovery: for every input the law returns true and changes nothing that was there. Part 6 of 9. -/
import Derived.Test.YtodbpnpbhpeepaaGreatDoorFC4
set_option synthInstance.maxSize 20000
set_option synthInstance.maxHeartbeats 2000000
set_option linter.unusedVariables false
set_option linter.unusedSimpArgs false
set_option linter.unnecessarySimpa false
set_option linter.unusedSectionVars false
set_option maxRecDepth 1000000
namespace Go.Proofs.YtodbpnpbhpeepaaGreatDoor
open Go.IntKind (i64)
namespace R
open Go.Shelf
def Af:Go.Shelf.Ren:=⟨fun | 156=>233 | 165=>277 | 166=>278 | 169=>279 | 240=>320 | 241=>321 | 276=>361 | 277=>362 | n=>n,fun | 31=>199 | 9=>9 | 3=>3 | 4=>4 | 0=>0 | 20=>20 | 72=>286 | 76=>265 | 70=>284 | 37=>22 | 75=>264 | 127=>328 | 164=>359 | 5=>5 | 80=>288 | n=>n,fun | n=>n⟩
theorem TJ:Go.Proofs.Lays.n156 Tryz.prog Af:= {
 mixed:=by kernel_rfl
 f156:=Tryz.func233.trans (congrArg some (by kernel_rfl))
 f165:=Tryz.func277.trans (congrArg some (by kernel_rfl))
 f166:=Tryz.func278.trans (congrArg some (by kernel_rfl))
 f169:=Tryz.func279.trans (congrArg some (by kernel_rfl))
 f240:=Tryz.func320.trans (congrArg some (by kernel_rfl))
 f241:=Tryz.func321.trans (congrArg some (by kernel_rfl))
 f276:=Tryz.func361.trans (congrArg some (by kernel_rfl))
 f277:=Tryz.func362.trans (congrArg some (by kernel_rfl))
 t0:=Tryz.underlying0
 a0:=Tryz.isAgg0
 z0:=Tryz.sizeOf0
 v0:=Tryz.zeroValue0
 t3:=Tryz.underlying3
 a3:=Tryz.isAgg3
 z3:=Tryz.sizeOf3
 v3:=Tryz.zeroValue3
 t4:=Tryz.underlying4
 a4:=Tryz.isAgg4
 z4:=Tryz.sizeOf4
 v4:=Tryz.zeroValue4
 t9:=Tryz.underlying9
 a9:=Tryz.isAgg9
 z9:=Tryz.sizeOf9
 v9:=Tryz.zeroValue9
 t20:=Tryz.underlying20
 a20:=Tryz.isAgg20
 z20:=Tryz.sizeOf20
 v20:=Tryz.zeroValue20
 t31:=Tryz.underlying199
 a31:=Tryz.isAgg199
 z31:=Tryz.sizeOf199
 v31:=Tryz.zeroValue199
 t37:=Tryz.underlying22
 a37:=Tryz.isAgg22
 z37:=Tryz.sizeOf22
 v37:=Tryz.zeroValue22
 t70:=Tryz.underlying284
 a70:=Tryz.isAgg284
 z70:=Tryz.sizeOf284
 v70:=Tryz.zeroValue284
 t72:=Tryz.underlying286
 a72:=Tryz.isAgg286
 z72:=Tryz.sizeOf286
 v72:=Tryz.zeroValue286
 t75:=Tryz.underlying264
 a75:=Tryz.isAgg264
 z75:=Tryz.sizeOf264
 v75:=Tryz.zeroValue264
 t76:=Tryz.underlying265
 a76:=Tryz.isAgg265
 z76:=Tryz.sizeOf265
 v76:=Tryz.zeroValue265
 t127:=Tryz.underlying328
 a127:=Tryz.isAgg328
 z127:=Tryz.sizeOf328
 v127:=Tryz.zeroValue328
 t164:=Tryz.underlying359
 a164:=Tryz.isAgg359
 z164:=Tryz.sizeOf359
 v164:=Tryz.zeroValue359 }
def H2:Go.Shelf.Ren:=⟨fun | 171=>234 | 243=>280 | 246=>322 | 283=>363 | 284=>364 | 285=>365 | 286=>366 | 129=>388 | 317=>387 | 318=>389 | 319=>390 | 320=>391 | 337=>405 | 338=>406 | n=>n,fun | 3=>3 | 9=>9 | 2=>2 | 4=>4 | 171=>362 | 0=>0 | 53=>363 | 37=>22 | 5=>5 | 173=>366 | 212=>390 | 51=>391 | 20=>20 | 213=>392 | 46=>232 | 232=>423 | 233=>424 | n=>n,fun | 17=>3 | 18=>6 | 19=>7 | n=>n⟩
theorem Lq:Go.Proofs.LaysM.n171 Tryz.prog H2:= {
 mixed:=by kernel_rfl
 f129:=Tryz.func388.trans (congrArg some (by kernel_rfl))
 f171:=Tryz.func234.trans (congrArg some (by kernel_rfl))
 f243:=Tryz.func280.trans (congrArg some (by kernel_rfl))
 f246:=Tryz.func322.trans (congrArg some (by kernel_rfl))
 f283:=Tryz.func363.trans (congrArg some (by kernel_rfl))
 f284:=Tryz.func364.trans (congrArg some (by kernel_rfl))
 f285:=Tryz.func365.trans (congrArg some (by kernel_rfl))
 f286:=Tryz.func366.trans (congrArg some (by kernel_rfl))
 f317:=Tryz.func387.trans (congrArg some (by kernel_rfl))
 f318:=Tryz.func389.trans (congrArg some (by kernel_rfl))
 f319:=Tryz.func390.trans (congrArg some (by kernel_rfl))
 f320:=Tryz.func391.trans (congrArg some (by kernel_rfl))
 f337:=Tryz.func405.trans (congrArg some (by kernel_rfl))
 f338:=Tryz.func406.trans (congrArg some (by kernel_rfl))
 t0:=Tryz.underlying0
 a0:=Tryz.isAgg0
 z0:=Tryz.sizeOf0
 v0:=Tryz.zeroValue0
 t2:=Tryz.underlying2
 a2:=Tryz.isAgg2
 z2:=Tryz.sizeOf2
 v2:=Tryz.zeroValue2
 t3:=Tryz.underlying3
 a3:=Tryz.isAgg3
 z3:=Tryz.sizeOf3
 v3:=Tryz.zeroValue3
 t4:=Tryz.underlying4
 a4:=Tryz.isAgg4
 z4:=Tryz.sizeOf4
 v4:=Tryz.zeroValue4
 t5:=Tryz.underlying5
 a5:=Tryz.isAgg5
 z5:=Tryz.sizeOf5
 v5:=Tryz.zeroValue5
 t9:=Tryz.underlying9
 a9:=Tryz.isAgg9
 z9:=Tryz.sizeOf9
 v9:=Tryz.zeroValue9
 t20:=Tryz.underlying20
 a20:=Tryz.isAgg20
 z20:=Tryz.sizeOf20
 v20:=Tryz.zeroValue20
 t37:=Tryz.underlying22
 a37:=Tryz.isAgg22
 z37:=Tryz.sizeOf22
 v37:=Tryz.zeroValue22
 t46:=Tryz.underlying232
 a46:=Tryz.isAgg232
 z46:=Tryz.sizeOf232
 v46:=Tryz.zeroValue232
 t51:=Tryz.underlying391
 a51:=Tryz.isAgg391
 z51:=Tryz.sizeOf391
 v51:=Tryz.zeroValue391
 t53:=Tryz.underlying363
 a53:=Tryz.isAgg363
 z53:=Tryz.sizeOf363
 v53:=Tryz.zeroValue363
 t171:=Tryz.underlying362
 a171:=Tryz.isAgg362
 z171:=Tryz.sizeOf362
 v171:=Tryz.zeroValue362
 t173:=Tryz.underlying366
 a173:=Tryz.isAgg366
 z173:=Tryz.sizeOf366
 v173:=Tryz.zeroValue366
 t212:=Tryz.underlying390
 a212:=Tryz.isAgg390
 z212:=Tryz.sizeOf390
 v212:=Tryz.zeroValue390
 t213:=Tryz.underlying392
 a213:=Tryz.isAgg392
 z213:=Tryz.sizeOf392
 t232:=Tryz.underlying423
 a232:=Tryz.isAgg423
 z232:=Tryz.sizeOf423
 v232:=Tryz.zeroValue423
 t233:=Tryz.underlying424
 a233:=Tryz.isAgg424
 z233:=Tryz.sizeOf424
 v233:=Tryz.zeroValue424
 g17:=by kernel_rfl
 g18:=by kernel_rfl
 g19:=by kernel_rfl
 i0:=by kernel_rfl
 i2:=by kernel_rfl
 i3:=by kernel_rfl
 i4:=by kernel_rfl
 i5:=by kernel_rfl
 i9:=by kernel_rfl
 i20:=by kernel_rfl
 i37:=by kernel_rfl
 i46:=by kernel_rfl
 i51:=by kernel_rfl
 i53:=by kernel_rfl
 i171:=by kernel_rfl
 i173:=by kernel_rfl
 i212:=by kernel_rfl
 i232:=by kernel_rfl
 i233:=by kernel_rfl
 m17:=by kernel_rfl
 m18:=by kernel_rfl
 m19:=by kernel_rfl }
def FI:Go.Shelf.Ren:=⟨fun | 146=>191 | 221=>245 | 268=>299 | 138=>300 | 143=>301 | 195=>344 | 197=>345 | 218=>346 | 219=>347 | 260=>375 | 217=>190 | 225=>376 | 224=>377 | 267=>378 | 266=>244 | 314=>397 | n=>n,fun | 9=>9 | 31=>199 | 3=>3 | 4=>4 | 0=>0 | 105=>344 | 21=>21 | 5=>5 | 46=>232 | 119=>399 | 139=>402 | 138=>401 | 146=>403 | 51=>391 | n=>n,fun | 1=>0 | 3=>4 | 4=>5 | n=>n⟩
theorem PW:Go.Proofs.Lays.n146 Tryz.prog FI:= {
 mixed:=by kernel_rfl
 f138:=Tryz.func300.trans (congrArg some (by kernel_rfl))
 f143:=Tryz.func301.trans (congrArg some (by kernel_rfl))
 f146:=Tryz.func191.trans (congrArg some (by kernel_rfl))
 f195:=Tryz.func344.trans (congrArg some (by kernel_rfl))
 f197:=Tryz.func345.trans (congrArg some (by kernel_rfl))
 f217:=Tryz.func190.trans (congrArg some (by kernel_rfl))
 f218:=Tryz.func346.trans (congrArg some (by kernel_rfl))
 f219:=Tryz.func347.trans (congrArg some (by kernel_rfl))
 f221:=Tryz.func245.trans (congrArg some (by kernel_rfl))
 f224:=Tryz.func377.trans (congrArg some (by kernel_rfl))
 f225:=Tryz.func376.trans (congrArg some (by kernel_rfl))
 f260:=Tryz.func375.trans (congrArg some (by kernel_rfl))
 f266:=Tryz.func244.trans (congrArg some (by kernel_rfl))
 f267:=Tryz.func378.trans (congrArg some (by kernel_rfl))
 f268:=Tryz.func299.trans (congrArg some (by kernel_rfl))
 f314:=Tryz.func397.trans (congrArg some (by kernel_rfl))
 t0:=Tryz.underlying0
 a0:=Tryz.isAgg0
 z0:=Tryz.sizeOf0
 v0:=Tryz.zeroValue0
 t3:=Tryz.underlying3
 a3:=Tryz.isAgg3
 z3:=Tryz.sizeOf3
 v3:=Tryz.zeroValue3
 t4:=Tryz.underlying4
 a4:=Tryz.isAgg4
 z4:=Tryz.sizeOf4
 v4:=Tryz.zeroValue4
 t5:=Tryz.underlying5
 a5:=Tryz.isAgg5
 z5:=Tryz.sizeOf5
 v5:=Tryz.zeroValue5
 t9:=Tryz.underlying9
 a9:=Tryz.isAgg9
 z9:=Tryz.sizeOf9
 v9:=Tryz.zeroValue9
 t21:=Tryz.underlying21
 a21:=Tryz.isAgg21
 z21:=Tryz.sizeOf21
 v21:=Tryz.zeroValue21
 t31:=Tryz.underlying199
 a31:=Tryz.isAgg199
 z31:=Tryz.sizeOf199
 v31:=Tryz.zeroValue199
 t46:=Tryz.underlying232
 a46:=Tryz.isAgg232
 z46:=Tryz.sizeOf232
 v46:=Tryz.zeroValue232
 t51:=Tryz.underlying391
 a51:=Tryz.isAgg391
 z51:=Tryz.sizeOf391
 v51:=Tryz.zeroValue391
 t105:=Tryz.underlying344
 a105:=Tryz.isAgg344
 z105:=Tryz.sizeOf344
 v105:=Tryz.zeroValue344
 t119:=Tryz.underlying399
 a119:=Tryz.isAgg399
 z119:=Tryz.sizeOf399
 t138:=Tryz.underlying401
 a138:=Tryz.isAgg401
 z138:=Tryz.sizeOf401
 v138:=Tryz.zeroValue401
 t139:=Tryz.underlying402
 a139:=Tryz.isAgg402
 z139:=Tryz.sizeOf402
 v139:=Tryz.zeroValue402
 t146:=Tryz.underlying403
 a146:=Tryz.isAgg403
 z146:=Tryz.sizeOf403
 v146:=Tryz.zeroValue403
 g1:=by kernel_rfl
 g3:=by kernel_rfl
 g4:=by kernel_rfl }
def Jx:Go.Shelf.Ren:=⟨fun | 145=>304 | 220=>353 | 219=>347 | 217=>190 | 225=>376 | 224=>377 | 267=>378 | 266=>244 | 314=>397 | n=>n,fun | 9=>9 | 4=>4 | 59=>312 | 3=>3 | 5=>5 | 46=>232 | 146=>403 | 51=>391 | n=>n,fun | 1=>0 | n=>n⟩
theorem XY:Go.Proofs.Lays.n145 Tryz.prog Jx:= {
 mixed:=by kernel_rfl
 f145:=Tryz.func304.trans (congrArg some (by kernel_rfl))
 f217:=Tryz.func190.trans (congrArg some (by kernel_rfl))
 f219:=Tryz.func347.trans (congrArg some (by kernel_rfl))
 f220:=Tryz.func353.trans (congrArg some (by kernel_rfl))
 f224:=Tryz.func377.trans (congrArg some (by kernel_rfl))
 f225:=Tryz.func376.trans (congrArg some (by kernel_rfl))
 f266:=Tryz.func244.trans (congrArg some (by kernel_rfl))
 f267:=Tryz.func378.trans (congrArg some (by kernel_rfl))
 f314:=Tryz.func397.trans (congrArg some (by kernel_rfl))
 t3:=Tryz.underlying3
 a3:=Tryz.isAgg3
 z3:=Tryz.sizeOf3
 v3:=Tryz.zeroValue3
 t4:=Tryz.underlying4
 a4:=Tryz.isAgg4
 z4:=Tryz.sizeOf4
 v4:=Tryz.zeroValue4
 t5:=Tryz.underlying5
 a5:=Tryz.isAgg5
 z5:=Tryz.sizeOf5
 v5:=Tryz.zeroValue5
 t9:=Tryz.underlying9
 a9:=Tryz.isAgg9
 z9:=Tryz.sizeOf9
 v9:=Tryz.zeroValue9
 t46:=Tryz.underlying232
 a46:=Tryz.isAgg232
 z46:=Tryz.sizeOf232
 v46:=Tryz.zeroValue232
 t51:=Tryz.underlying391
 a51:=Tryz.isAgg391
 z51:=Tryz.sizeOf391
 v51:=Tryz.zeroValue391
 t59:=Tryz.underlying312
 a59:=Tryz.isAgg312
 z59:=Tryz.sizeOf312
 v59:=Tryz.zeroValue312
 t146:=Tryz.underlying403
 a146:=Tryz.isAgg403
 z146:=Tryz.sizeOf403
 v146:=Tryz.zeroValue403
 g1:=by kernel_rfl }
def zu:Go.Shelf.Ren:=⟨fun | 137=>123 | 217=>190 | 266=>244 | n=>n,fun | 9=>9 | 5=>5 | 3=>3 | n=>n,fun | n=>n⟩
theorem FJ:Go.Proofs.Lays.n137 Tryz.prog zu:= {
 mixed:=by kernel_rfl
 f137:=Tryz.func123.trans (congrArg some (by kernel_rfl))
 f217:=Tryz.func190.trans (congrArg some (by kernel_rfl))
 f266:=Tryz.func244.trans (congrArg some (by kernel_rfl))
 t3:=Tryz.underlying3
 a3:=Tryz.isAgg3
 z3:=Tryz.sizeOf3
 v3:=Tryz.zeroValue3
 t5:=Tryz.underlying5
 a5:=Tryz.isAgg5
 z5:=Tryz.sizeOf5
 v5:=Tryz.zeroValue5
 t9:=Tryz.underlying9
 a9:=Tryz.isAgg9
 z9:=Tryz.sizeOf9
 v9:=Tryz.zeroValue9 }
def H3:Go.Shelf.Ren:=⟨fun | 172=>246 | 244=>302 | 245=>303 | 247=>348 | 279=>349 | 280=>350 | 281=>351 | 282=>352 | 287=>379 | 316=>380 | 171=>234 | 205=>381 | 321=>398 | 322=>399 | 243=>280 | 246=>322 | 283=>363 | 284=>364 | 285=>365 | 286=>366 | 129=>388 | 317=>387 | 318=>389 | 319=>390 | 320=>391 | 337=>405 | 338=>406 | n=>n,fun | 9=>9 | 3=>3 | 75=>264 | 76=>265 | 4=>4 | 5=>5 | 167=>346 | 37=>22 | 0=>0 | 85=>347 | 2=>2 | 168=>349 | 53=>363 | 175=>376 | 46=>232 | 210=>380 | 127=>328 | 145=>409 | 143=>407 | 21=>21 | 171=>362 | 173=>366 | 212=>390 | 51=>391 | 20=>20 | 213=>392 | 232=>423 | 233=>424 | 80=>288 | n=>n,fun | 15=>1 | 16=>2 | 17=>3 | 18=>6 | 19=>7 | n=>n⟩
theorem Lr:Go.Proofs.LaysC.n172 Tryz.prog H3:= {
 mixed:=by kernel_rfl
 f129:=Tryz.func388.trans (congrArg some (by kernel_rfl))
 f171:=Tryz.func234.trans (congrArg some (by kernel_rfl))
 f172:=Tryz.func246.trans (congrArg some (by kernel_rfl))
 f205:=Tryz.func381.trans (congrArg some (by kernel_rfl))
 f243:=Tryz.func280.trans (congrArg some (by kernel_rfl))
 f244:=Tryz.func302.trans (congrArg some (by kernel_rfl))
 f245:=Tryz.func303.trans (congrArg some (by kernel_rfl))
 f246:=Tryz.func322.trans (congrArg some (by kernel_rfl))
 f247:=Tryz.func348.trans (congrArg some (by kernel_rfl))
 f279:=Tryz.func349.trans (congrArg some (by kernel_rfl))
 f280:=Tryz.func350.trans (congrArg some (by kernel_rfl))
 f281:=Tryz.func351.trans (congrArg some (by kernel_rfl))
 f282:=Tryz.func352.trans (congrArg some (by kernel_rfl))
 f283:=Tryz.func363.trans (congrArg some (by kernel_rfl))
 f284:=Tryz.func364.trans (congrArg some (by kernel_rfl))
 f285:=Tryz.func365.trans (congrArg some (by kernel_rfl))
 f286:=Tryz.func366.trans (congrArg some (by kernel_rfl))
 f287:=Tryz.func379.trans (congrArg some (by kernel_rfl))
 f316:=Tryz.func380.trans (congrArg some (by kernel_rfl))
 f317:=Tryz.func387.trans (congrArg some (by kernel_rfl))
 f318:=Tryz.func389.trans (congrArg some (by kernel_rfl))
 f319:=Tryz.func390.trans (congrArg some (by kernel_rfl))
 f320:=Tryz.func391.trans (congrArg some (by kernel_rfl))
 f321:=Tryz.func398.trans (congrArg some (by kernel_rfl))
 f322:=Tryz.func399.trans (congrArg some (by kernel_rfl))
 f337:=Tryz.func405.trans (congrArg some (by kernel_rfl))
 f338:=Tryz.func406.trans (congrArg some (by kernel_rfl))
 t0:=Tryz.underlying0
 a0:=Tryz.isAgg0
 z0:=Tryz.sizeOf0
 v0:=Tryz.zeroValue0
 t2:=Tryz.underlying2
 a2:=Tryz.isAgg2
 z2:=Tryz.sizeOf2
 v2:=Tryz.zeroValue2
 t3:=Tryz.underlying3
 a3:=Tryz.isAgg3
 z3:=Tryz.sizeOf3
 v3:=Tryz.zeroValue3
 t4:=Tryz.underlying4
 a4:=Tryz.isAgg4
 z4:=Tryz.sizeOf4
 v4:=Tryz.zeroValue4
 t5:=Tryz.underlying5
 a5:=Tryz.isAgg5
 z5:=Tryz.sizeOf5
 v5:=Tryz.zeroValue5
 t9:=Tryz.underlying9
 a9:=Tryz.isAgg9
 z9:=Tryz.sizeOf9
 v9:=Tryz.zeroValue9
 t20:=Tryz.underlying20
 a20:=Tryz.isAgg20
 z20:=Tryz.sizeOf20
 v20:=Tryz.zeroValue20
 t21:=Tryz.underlying21
 a21:=Tryz.isAgg21
 z21:=Tryz.sizeOf21
 v21:=Tryz.zeroValue21
 t37:=Tryz.underlying22
 a37:=Tryz.isAgg22
 z37:=Tryz.sizeOf22
 v37:=Tryz.zeroValue22
 t46:=Tryz.underlying232
 a46:=Tryz.isAgg232
 z46:=Tryz.sizeOf232
 v46:=Tryz.zeroValue232
 t51:=Tryz.underlying391
 a51:=Tryz.isAgg391
 z51:=Tryz.sizeOf391
 v51:=Tryz.zeroValue391
 t53:=Tryz.underlying363
 a53:=Tryz.isAgg363
 z53:=Tryz.sizeOf363
 v53:=Tryz.zeroValue363
 t75:=Tryz.underlying264
 a75:=Tryz.isAgg264
 z75:=Tryz.sizeOf264
 v75:=Tryz.zeroValue264
 t76:=Tryz.underlying265
 a76:=Tryz.isAgg265
 z76:=Tryz.sizeOf265
 v76:=Tryz.zeroValue265
 t85:=Tryz.underlying347
 a85:=Tryz.isAgg347
 z85:=Tryz.sizeOf347
 v85:=Tryz.zeroValue347
 t127:=Tryz.underlying328
 a127:=Tryz.isAgg328
 z127:=Tryz.sizeOf328
 v127:=Tryz.zeroValue328
 t143:=Tryz.underlying407
 a143:=Tryz.isAgg407
 z143:=Tryz.sizeOf407
 v143:=Tryz.zeroValue407
 t145:=Tryz.underlying409
 a145:=Tryz.isAgg409
 z145:=Tryz.sizeOf409
 v145:=Tryz.zeroValue409
 t167:=Tryz.underlying346
 a167:=Tryz.isAgg346
 z167:=Tryz.sizeOf346
 v167:=Tryz.zeroValue346
 t168:=Tryz.underlying349
 a168:=Tryz.isAgg349
 z168:=Tryz.sizeOf349
 v168:=Tryz.zeroValue349
 t171:=Tryz.underlying362
 a171:=Tryz.isAgg362
 z171:=Tryz.sizeOf362
 v171:=Tryz.zeroValue362
 t173:=Tryz.underlying366
 a173:=Tryz.isAgg366
 z173:=Tryz.sizeOf366
 v173:=Tryz.zeroValue366
 t175:=Tryz.underlying376
 a175:=Tryz.isAgg376
 z175:=Tryz.sizeOf376
 v175:=Tryz.zeroValue376
 t210:=Tryz.underlying380
 a210:=Tryz.isAgg380
 z210:=Tryz.sizeOf380
 v210:=Tryz.zeroValue380
 t212:=Tryz.underlying390
 a212:=Tryz.isAgg390
 z212:=Tryz.sizeOf390
 v212:=Tryz.zeroValue390
 t213:=Tryz.underlying392
 a213:=Tryz.isAgg392
 z213:=Tryz.sizeOf392
 t232:=Tryz.underlying423
 a232:=Tryz.isAgg423
 z232:=Tryz.sizeOf423
 v232:=Tryz.zeroValue423
 t233:=Tryz.underlying424
 a233:=Tryz.isAgg424
 z233:=Tryz.sizeOf424
 v233:=Tryz.zeroValue424
 g15:=by kernel_rfl
 g16:=by kernel_rfl
 g17:=by kernel_rfl
 g18:=by kernel_rfl
 g19:=by kernel_rfl
 t80:=Tryz.underlying288
 a80:=Tryz.isAgg288
 z80:=Tryz.sizeOf288
 v80:=Tryz.zeroValue288
 i0:=by kernel_rfl
 i2:=by kernel_rfl
 i3:=by kernel_rfl
 i4:=by kernel_rfl
 i5:=by kernel_rfl
 i9:=by kernel_rfl
 i20:=by kernel_rfl
 i21:=by kernel_rfl
 i37:=by kernel_rfl
 i46:=by kernel_rfl
 i51:=by kernel_rfl
 i53:=by kernel_rfl
 i75:=by kernel_rfl
 i76:=by kernel_rfl
 i80:=by kernel_rfl
 i85:=by kernel_rfl
 i127:=by kernel_rfl
 i143:=by kernel_rfl
 i145:=by kernel_rfl
 i167:=by kernel_rfl
 i168:=by kernel_rfl
 i171:=by kernel_rfl
 i173:=by kernel_rfl
 i175:=by kernel_rfl
 i210:=by kernel_rfl
 i212:=by kernel_rfl
 i232:=by kernel_rfl
 i233:=by kernel_rfl
 m15:=by kernel_rfl
 m16:=by kernel_rfl
 m17:=by kernel_rfl
 m18:=by kernel_rfl
 m19:=by kernel_rfl
 c0:=by kernel_rfl
 c2:=by kernel_rfl
 c3:=by kernel_rfl
 c4:=by kernel_rfl
 c5:=by kernel_rfl
 c9:=by kernel_rfl
 c20:=by kernel_rfl
 c21:=by kernel_rfl
 c37:=by kernel_rfl
 c46:=by kernel_rfl
 c51:=by kernel_rfl
 c53:=by kernel_rfl
 c75:=by kernel_rfl
 c76:=by kernel_rfl
 c80:=by kernel_rfl
 c85:=by kernel_rfl
 c127:=by kernel_rfl
 c143:=by kernel_rfl
 c145:=by kernel_rfl
 c167:=by kernel_rfl
 c168:=by kernel_rfl
 c171:=by kernel_rfl
 c173:=by kernel_rfl
 c175:=by kernel_rfl
 c210:=by kernel_rfl
 c212:=by kernel_rfl
 c213:=by kernel_rfl
 c232:=by kernel_rfl
 c233:=by kernel_rfl }
theorem PX:Go.Proofs.Builder.Extra Tryz.prog Af where
 sizeBuilder:=by kernel_rfl
 liesBuilder:=by kernel_rfl
 t5:=Tryz.underlying5
 a5:=Tryz.isAgg5
 z5:=Tryz.sizeOf5
 v5:=Tryz.zeroValue5
 infoByte:=by kernel_rfl
 cellsByte:=by kernel_rfl
 sizeByte:=by kernel_rfl
 neB5:=by decide
end R
namespace R
open Go.RowKit
open D
def FldAll (P:Program) (T:TypeId):Nat->List (Nat×Nat)->Prop
 | _,[] =>True
 | i,q::l=>TF P T i q.1 q.2/\FldAll P T (i+1) l
theorem FldAll.get {P:Program} {T:TypeId} : ∀ {l:List (Nat×Nat)} {i:Nat},FldAll P T i l-> ∀f q,l[f]? =some q->TF P T (i+f) q.1 q.2
 | [],_,_,f,q,h=>by simp at h
 | x::l,i,⟨h1,h2⟩,f,q,h=>by
  cases f with
  | zero=>simp at h;subst h;exact h1
  | succ f =>
   have:=FldAll.get h2 f q (by simpa using h)
   rwa [show i+1+f=i+(f+1) from by omega] at this
section
variable {P:Program} {T:TypeId}
theorem wL {n b:Nat} {ty:Ty} {z:Value} {a:Bool} {c:Option (Option IntKind)} (h1:TI P T false 1) (i:ty.size=1) (j:TZ P T z 1 b) (o:z.cells=(zeroCells ty).toArray) (g:1<=b) (d:a=true->P.underlying T=some .bool) (l: ∀k,c=some k->P.underlying T=some (ikD k)):TDok P T ⟨false,1,none,ty,[],some b,none,a,none,none,c,false,none⟩:=
 ⟨h1,rfl,i,fun E h=>by simp at h,fun f q h=>by simp at h,fun p h=>by obtain rfl:=ae h;exact ⟨z,j,o,g⟩,fun r h=>by simp at h,d,(fun s h=>by cases h),(fun m h=>by cases h),l,(fun h=>by cases h),fun e h=>by cases h⟩
theorem tY {E:TypeId} {t:Ty} (h1:TI P T false 1) (a:P.underlying T=some (.slice E)) (b:TZ P T (.slice none 0 0) 1 24):TDok P T ⟨false,1,some E,.sl E t,[],some 24,none,false,none,none,none,false,none⟩:=
 ⟨h1,rfl,rfl,fun i h=>by obtain rfl:=ae h;exact a,fun f q h=>by simp at h,fun d h=>by obtain rfl:=ae h;exact ⟨_,b,rfl,by decide⟩,fun g h=>by simp at h,(fun h=>by cases h),(fun c h=>by cases h),(fun m h=>by cases h),(fun k h=>by cases h),(fun h=>by cases h),fun e h=>by cases h⟩
theorem qd {n b:Nat} {ty:Ty} {fs c:List (Nat×Nat)} {z:Value} {a:Option (List (Option IntKind))} (h1:TI P T true n) (l:ty.size=n) (p:FldAll P T 0 fs) (u:TZ P T z n b) (g:z.cells=(zeroCells ty).toArray) (d:1<=b) (t:TB P T c) (s: ∀ks,a=some ks-> ∀w,Curq ks fun j o r=>EqT P T (.agg j.toArray) (.agg o.toArray) r w):TDok P T ⟨true,n,none,ty,fs,some b,some c,false,a,none,none,false,none⟩:=
 ⟨h1,rfl,l,fun E h=>by simp at h,fun f q h=>by have:=p.get f q h;rwa [Nat.zero_add] at this,fun v h=>by obtain rfl:=ae h;exact ⟨z,u,g,d⟩,fun i h=>by obtain rfl:=ae h;exact t,(fun h=>by cases h),s,(fun m h=>by cases h),(fun k h=>by cases h),(fun h=>by cases h),fun e h=>by cases h⟩
theorem zw {ty:Ty} {b:Nat} (h1:TI P T false 1) (a:ty.size=1) (c:TZ P T .nilFunc 1 b):TDok P T ⟨false,1,none,ty,[],none,none,false,none,none,none,true,none⟩:=
 ⟨h1,rfl,a,fun E h=>by simp at h,fun f q h=>by simp at h,(fun g h=>by cases h),(fun j h=>by cases h),(fun h=>by cases h),(fun d h=>by cases h),(fun i h=>by cases h),(fun k h=>by cases h),(fun _=>⟨b,c⟩),fun e h=>by cases h⟩
theorem acn {m:MD} {ty:Ty} (h1:TI P T false 1) (a:ty.size=1) (b:MDok P T m):TDok P T ⟨false,1,none,ty,[],none,none,false,none,some m,none,false,none⟩:=
 ⟨h1,rfl,a,fun E h=>by simp at h,fun f q h=>by simp at h,(fun d h=>by cases h),(fun i h=>by cases h),(fun h=>by cases h),(fun c h=>by cases h),(fun g h=>by obtain rfl:=ae h;exact b),(fun k h=>by cases h),(fun h=>by cases h),fun e h=>by cases h⟩
theorem aco {e E:TypeId} {u:Ty} (h1:TI P T false 1) (a:P.underlying T=some (.pointer e)) (b:TZ P T (.pointer none) 1 8):TDok P T ⟨false,1,none,.fro (.tree e E u),[],some 8,none,false,none,none,none,false,some e⟩:=
 ⟨h1,rfl,rfl,fun j h=>by simp at h,fun f q h=>by simp at h,fun g h=>by obtain rfl:=ae h;exact ⟨_,b,rfl,by decide⟩,fun i h=>by simp at h,(fun h=>by cases h),(fun c h=>by cases h),(fun m h=>by cases h),(fun k h=>by cases h),(fun h=>by cases h),fun d h=>by obtain rfl:=ae h;exact a⟩
end
end R
namespace D
open Go.RowKit
abbrev Yq1:Type:=(Int×Int×Int×Int)
abbrev Yq2:Type:=(Int×(List Bool)×(List (List Int)))
abbrev GJ:Type:=(Int×((List Yq1))×Int)
abbrev Yq3:Type:=(List GJ)
abbrev Yq4:Type:=(Bool×Int×Int×Int×Int)
abbrev Yq9:Type:=(Int×(List Bool)×List (List Int))
abbrev IF:Type:=(Int×(List Yq1)×Int)
abbrev Yq5:Type:=((List Yq9)×List IF)
abbrev Yq6:Type:=((List Int)×(List Yq1))
abbrev Yq7:Type:=((List Int)×List Yq1)
abbrev GK:Type:=(Int×Int×Int)
abbrev Yq8:Type:=(List GK)
abbrev wM:Type:=((List Yq2)×Yq3)
abbrev A8:Type:=(Int×(List Yq6))
abbrev tC:Type:=(List (Int×Int))
abbrev C9:Type:=(Int×List Yq7)
abbrev PY:Type:=(C9×Yq5×Yq8×ByteArray)
abbrev RH:Type:=((List Int)×Int×Int×(List Int)×Bool)
abbrev RI:Type:=(A8×wM×Yq8×ByteArray)
abbrev PZ:Type:=(List ((Int×Bool)×Int×Int))
abbrev acp:Type:=(Int×Int×Int×Int×(List Yq7)×(List Yq9)×(List IF)×Yq8×ByteArray)
abbrev RJ:Type:=(Int×(List Yq2)×Yq3)
abbrev acq:Type:=(Int×Int×Int×(List Yq7)×(List Yq9)×(List IF)×Yq8×ByteArray)
abbrev XZ:Type:=(Out (List Int) ((List Int)×Int))
abbrev ado:Type:=(Int×Int×(List (List Yq4))×Int×(List Yq7)×(List Yq9)×(List IF)×Yq8×ByteArray)
def Jy (a:List Int):Option Bool:=
 some (decide ((a.length:Int)>1048576))
def cy (a:Int) (b:Int) (c:Int):Option Bool:=
 if decide (a≥b) then (some (decide (a<=c))) else (some false)
def u9 (b:(List Int)×(List Yq1)) (a:Int×Int×Int×Int):Option Bool:=
 (cy a.1 1 99).bind fun c=>if c then ((cy a.2.1 0 (i64.wrap ((b.1.length:Int) - 1))).bind fun d=>if d then ((cy a.2.2.1 0 (i64.wrap ((b.1.length:Int) - 1))).bind fun e=>if e then ((cy a.2.2.2 0 2).bind fun f=>some f) else (some false)) else (some false)) else (some false)
def pv (b:(List Int)×(List Yq1)) (a:Int):Option (Out Bool Int):=
 if decide (a<(b.1.length:Int)) then ((aS b.1 a).bind fun c=>(cy c 0 2).bind fun d=>if d then (some (.nxt (i64.wrap (a+1)))) else (some (.ret false))) else (some (.brk a))
def lH (b:(List Int)×(List Yq1)) (a:Int):Option (Out Bool Int):=
 if decide (a<(b.2.length:Int)) then ((aS b.2 a).bind fun c=>(u9 (b.1,b.2) (c.1,c.2.1,c.2.2.1,c.2.2.2)).bind fun d=>if d then (if decide (a>0) then ((aS b.2 (i64.wrap (a - 1))).bind fun e=>(aS b.2 a).bind fun f=>if decide (e.1≥f.1) then (some (.ret false)) else (some (.nxt (i64.wrap (a+1))))) else (some (.nxt (i64.wrap (a+1))))) else (some (.ret false))) else (some (.brk a))
def bI (a:(List Int)×(List Yq1)):Option Bool:=
 aO (ah (pv a) aU 0) (fun r=>some r) (fun c=>aO (ah (lH a) aU 0) (fun r=>some r) (fun d=>(cy (a.1.length:Int) 1 5).bind fun b=>if b then (some (decide ((a.2.length:Int)<=12))) else (some false)))
def ql (b:List Int) (c:List Int) (a:Int):Option (Out Int Int):=
 if decide (a<(b.length:Int)) then (if decide (a<(c.length:Int)) then ((aS b a).bind fun d=>(aS c a).bind fun e=>if decide (d<e) then (some (.ret (-1))) else ((aS b a).bind fun f=>(aS c a).bind fun g=>if decide (f>g) then (some (.ret 1)) else (some (.nxt (i64.wrap (a+1)))))) else (some (.brk a))) else (some (.brk a))
def nT (a:List Int) (b:List Int):Option Int:=
 aO (ah (ql a b) aU 0) (fun r=>some r) (fun c=>if decide ((a.length:Int)<(b.length:Int)) then (some (-1)) else (if decide ((a.length:Int)>(b.length:Int)) then (some 1) else (some 0)))
def bC (b:Int×(List Yq6)) (a:Int):Option (Out Bool Int):=
 if decide (a<(b.2.length:Int)) then ((aS b.2 a).bind fun c=>(bI (c.1,c.2)).bind fun d=>if d then ((aS b.2 a).bind fun e=>(aS b.2 0).bind fun f=>(nT e.1 f.1).bind fun g=>if g !=0 then (some (.ret false)) else (some (.nxt (i64.wrap (a+1))))) else (some (.ret false))) else (some (.brk a))
def m_s_IsValidHistory (a:Int×(List Yq6)):Option Bool:=
 aO (ah (bC a) aU 0) (fun r=>some r) (fun d=>(cy (a.2.length:Int) 1 8).bind fun b=>if b then ((cy a.1 1 (i64.wrap ((i64.wrap (999 - (a.2.length:Int)))+1))).bind fun c=>some c) else (some false))
def fR (a:List Yq1):Option (List Yq1):=
 (bw 32 ([] :List Yq1) a).bind fun b=>some b
def nU (a:Int):Option Bool:=
 (cy a 0 8).bind fun b=>some b
def pw (a:Int×Int×Int×Int):Option Int:=
 Option.bind ((if a.1==1 then (some (a.1==1)) else (some (a.1==2)):Option Bool)) (fun b=>if b then (if a.2.1 !=0 then (some (-1)) else (if a.2.2.1 !=0 then (some (-1)) else (if a.2.2.2 !=0 then (some (-1)) else (some 0)))) else (if a.1==3 then ((nU a.2.1).bind fun c=>if c then (if a.2.2.1 !=0 then (some (-1)) else (if a.2.2.2 !=0 then (some (-1)) else (some 0))) else (some (-1))) else (Option.bind ((if a.1==4 then (some (a.1==4)) else (some (a.1==5)):Option Bool)) (fun d=>if d then (if a.2.1 !=0 then (some (-1)) else (if a.2.2.1 !=0 then (some (-1)) else (if a.2.2.2 !=0 then (some (-1)) else (some 2)))) else (if a.1==6 then (if a.2.1 !=0 then (some (-1)) else (if a.2.2.1 !=0 then (some (-1)) else (if a.2.2.2 !=0 then (some (-1)) else (some 1)))) else (if a.1==7 then (if a.2.1 !=0 then (some (-1)) else ((cy a.2.2.2 1 3).bind fun e=>if e then ((cy a.2.2.1 0 a.2.2.2).bind fun f=>if f then (some 1) else (some (-1))) else (some (-1)))) else (some (-1))))))))
def sf (d:(List Yq1)) (a:Int×Int):Option (Out Bool (Int×Int)):=
 if decide (a.2<(d.length:Int)) then ((aS d a.2).bind fun b=>(pw (b.1,b.2.1,b.2.2.1,b.2.2.2)).bind fun c=>if decide (c<0) then (some (.ret false)) else (if decide (c>a.1) then (some (.ret false)) else (some (.nxt (i64.wrap ((i64.wrap (a.1 - c))+1),i64.wrap (a.2+1)))))) else (some (.brk (a.1,a.2)))
def vc (a:(List Yq1)):Option Bool:=
 aO (ah (sf a) aU (0,0)) (fun r=>some r) (fun b=>some (b.1==1))
def jK (a:(List Yq1)):Option Bool:=
 if decide ((a.length:Int)<=24) then ((vc a).bind fun b=>some b) else (some false)
def nC (c:List Yq1) (a:Int×Int):Option (Out Int (Int×Int)):=
 if decide (a.1>0) then ((aS c (i64.wrap (a.2 - 1))).bind fun b=>(pw (b.1,b.2.1,b.2.2.1,b.2.2.2)).bind fun d=>some (.nxt (i64.wrap ((i64.wrap (a.1 - 1))+d),i64.wrap (a.2 - 1)))) else (some (.brk (a.1,a.2)))
def jL (a:List Yq1):Option Int:=
 aO (ah (nC a) aU (1,(a.length:Int))) (fun r=>some r) (fun b=>some b.2)
def fu:Nat->(List Yq1)->Option Int
 | 0,_=>none
 | n+1,p0l =>
  (aS p0l (i64.wrap ((p0l.length:Int) - 1))).bind fun a=>Option.bind ((if a.1==4 then (some (a.1==4)) else (some (a.1==5)):Option Bool)) (fun c=>if c then ((chk (And (0<=(i64.wrap ((p0l.length:Int) - 1))) ((i64.wrap ((p0l.length:Int) - 1))<=(p0l.length:Int)))).bind fun _=>(jL (p0l.take ((i64.wrap ((p0l.length:Int) - 1)).toNat))).bind fun b=>(chk (And (0<=b) (b<=(p0l.length:Int)))).bind fun _=>((fu n) (p0l.take b.toNat)).bind fun d=>(chk (And (0<=b) (And (b<=(i64.wrap ((p0l.length:Int) - 1))) ((i64.wrap ((p0l.length:Int) - 1))<=(p0l.length:Int))))).bind fun _=>((fu n) ((p0l.take ((i64.wrap ((p0l.length:Int) - 1)).toNat)).drop b.toNat)).bind fun e=>some (Min.min 100000 (i64.wrap ((i64.wrap (d+e))+1)))) else (if a.1==6 then ((chk (And (0<=(i64.wrap ((p0l.length:Int) - 1))) ((i64.wrap ((p0l.length:Int) - 1))<=(p0l.length:Int)))).bind fun _=>((fu n) (p0l.take ((i64.wrap ((p0l.length:Int) - 1)).toNat))).bind fun f=>some (Min.min 100000 (i64.wrap (f+1)))) else (if a.1==7 then ((chk (And (0<=(i64.wrap ((p0l.length:Int) - 1))) ((i64.wrap ((p0l.length:Int) - 1))<=(p0l.length:Int)))).bind fun _=>((fu n) (p0l.take ((i64.wrap ((p0l.length:Int) - 1)).toNat))).bind fun g=>some (Min.min 100000 (i64.wrap ((i64.wrap ((i64.wrap (g+3))*a.2.2.2))+1)))) else (some 1))))
def fm (b:(List Yq1)) (c:(List Yq1)) (a:Int×Int×Int×Int):Option (List Yq1):=
 (fR b).bind fun d=>(bw 32 d c).bind fun e=>(bw 32 e ([(a.1,a.2.1,a.2.2.1,a.2.2.2)])).bind fun f=>some f
def rk (a:Int):Option (List Yq1):=
 some ([(a,0,0,0)])
def nV:Nat->(List Yq1)->Int->Int->Option (List Yq1)
 | 0,_,_,_=>none
 | n+1,p0e,p1low,p2high =>
  if p2high==0 then ((rk 2).bind fun b=>some b) else (((nV n) p0e (Max.max 0 (i64.wrap (p1low - 1))) (i64.wrap (p2high - 1))).bind fun c=>(fm p0e c (4,0,0,0)).bind fun a=>if decide (p1low>0) then (some a) else ((rk 2).bind fun d=>(fm a d (5,0,0,0)).bind fun e=>some e))
def dD:Nat->(List Yq1)->Option (List Yq1)
 | 0,_=>none
 | n+1,p0l =>
  (aS p0l (i64.wrap ((p0l.length:Int) - 1))).bind fun a=>Option.bind ((if a.1==4 then (some (a.1==4)) else (some (a.1==5)):Option Bool)) (fun c=>if c then ((chk (And (0<=(i64.wrap ((p0l.length:Int) - 1))) ((i64.wrap ((p0l.length:Int) - 1))<=(p0l.length:Int)))).bind fun _=>(jL (p0l.take ((i64.wrap ((p0l.length:Int) - 1)).toNat))).bind fun b=>(chk (And (0<=b) (b<=(p0l.length:Int)))).bind fun _=>((dD n) (p0l.take b.toNat)).bind fun d=>(chk (And (0<=b) (And (b<=(i64.wrap ((p0l.length:Int) - 1))) ((i64.wrap ((p0l.length:Int) - 1))<=(p0l.length:Int))))).bind fun _=>((dD n) ((p0l.take ((i64.wrap ((p0l.length:Int) - 1)).toNat)).drop b.toNat)).bind fun e=>(fm d e (a.1,a.2.1,a.2.2.1,a.2.2.2)).bind fun f=>some f) else (if a.1==6 then ((chk (And (0<=(i64.wrap ((p0l.length:Int) - 1))) ((i64.wrap ((p0l.length:Int) - 1))<=(p0l.length:Int)))).bind fun _=>((dD n) (p0l.take ((i64.wrap ((p0l.length:Int) - 1)).toNat))).bind fun g=>(fm g ([] :List Yq1) (a.1,a.2.1,a.2.2.1,a.2.2.2)).bind fun h=>some h) else (if a.1==7 then ((chk (And (0<=(i64.wrap ((p0l.length:Int) - 1))) ((i64.wrap ((p0l.length:Int) - 1))<=(p0l.length:Int)))).bind fun _=>((dD n) (p0l.take ((i64.wrap ((p0l.length:Int) - 1)).toNat))).bind fun i=>(nV fP i a.2.2.1 a.2.2.2).bind fun j=>some j) else (some ([(a.1,a.2.1,a.2.2.1,a.2.2.2)])))))
def jc (a:(List Yq1)):Option (((List Yq1))×Bool):=
 (jK a).bind fun c=>if c then ((fu fP a).bind fun d=>if decide (d>5000) then (some ([],false)) else ((dD fP a).bind fun b=>if decide ((b.length:Int)>400) then (some ([],false)) else (some (b,true)))) else (some ([],false))
def kM (b:Int) (c:Int) (a:Int×List Int):Option (Out RH (Int×List Int)):=
 if decide (a.1<(a.2.length:Int)) then (Option.bind (((chk (0<=a.1)).bind fun _=>if (rU (qc b a.1) 1)==1 then ((aS a.2 a.1).bind fun d=>(aS a.2 a.1).bind fun f=>some (a.2.set a.1.toNat (orI d c))) else (some a.2):Option (List Int))) (fun e=>some (.nxt (i64.wrap (a.1+1),e)))) else (some (.brk (a.1,a.2)))
def px (a:(List Int)×Int×Int×(List Int)×Bool) (b:Int) (c:Int):Option RH:=
 aO (ah (kM b c) aU (0,a.2.2.2.1)) (fun d=>some d) (fun e=>some (a.1,a.2.1,a.2.2.1,e.2,a.2.2.2.2))
def cG:Nat->RH->(List Yq1)->Option ((Bool×Int×Int)×(List Int)×Int×Int×(List Int)×Bool)
 | 0,_,_=>none
 | n+1,p0,p1 =>
  (aS p1 (i64.wrap ((p1.length:Int) - 1))).bind fun g=>if g.1==2 then (some ((true,0,0),p0.1,p0.2.1,p0.2.2.1,p0.2.2.2.1,p0.2.2.2.2)) else (if g.1==3 then ((bw 8 p0.1 ([g.2.1])).bind fun p=>(bw 8 p0.2.2.2.1 ([0])).bind fun q=>some ((false,Dc 1 (p0.1.length:Int),Dc 1 (p0.1.length:Int)),p,p0.2.1,p0.2.2.1,q,p0.2.2.2.2)) else (if g.1==4 then ((chk (And (0<=(i64.wrap ((p1.length:Int) - 1))) ((i64.wrap ((p1.length:Int) - 1))<=(p1.length:Int)))).bind fun _=>(jL (p1.take ((i64.wrap ((p1.length:Int) - 1)).toNat))).bind fun h=>(chk (And (0<=h) (h<=(p1.length:Int)))).bind fun _=>((cG n) (p0.1,p0.2.1,p0.2.2.1,p0.2.2.2.1,p0.2.2.2.2) (p1.take h.toNat)).bind fun b=>(chk (And (0<=h) (And (h<=(i64.wrap ((p1.length:Int) - 1))) ((i64.wrap ((p1.length:Int) - 1))<=(p1.length:Int))))).bind fun _=>((cG n) (b.2.1,b.2.2.1,b.2.2.2.1,b.2.2.2.2.1,b.2.2.2.2.2) ((p1.take ((i64.wrap ((p1.length:Int) - 1)).toNat)).drop h.toNat)).bind fun a=>(px (a.2.1,a.2.2.1,a.2.2.2.1,a.2.2.2.2.1,a.2.2.2.2.2) b.1.2.2 a.1.2.1).bind fun d=>if b.1.1 then (Option.bind ((if b.1.1 then (some (a.1.1,orI b.1.2.1 a.1.2.1,a.1.2.2)) else (some (a.1.1,b.1.2.1,a.1.2.2)):Option (Bool×Int×Int))) (fun j=>Option.bind ((if a.1.1 then (some (j.1,j.2.1,orI b.1.2.2 a.1.2.2)) else (some (j.1,j.2.1,j.2.2)):Option (Bool×Int×Int))) (fun m=>some ((m.1,m.2.1,m.2.2),d.1,d.2.1,d.2.2.1,d.2.2.2.1,d.2.2.2.2)))) else (Option.bind ((if b.1.1 then (some (false,orI b.1.2.1 a.1.2.1,a.1.2.2)) else (some (false,b.1.2.1,a.1.2.2)):Option (Bool×Int×Int))) (fun k=>Option.bind ((if a.1.1 then (some (k.1,k.2.1,orI b.1.2.2 a.1.2.2)) else (some (k.1,k.2.1,k.2.2)):Option (Bool×Int×Int))) (fun o=>some ((o.1,o.2.1,o.2.2),d.1,d.2.1,d.2.2.1,d.2.2.2.1,d.2.2.2.2))))) else (if g.1==5 then ((chk (And (0<=(i64.wrap ((p1.length:Int) - 1))) ((i64.wrap ((p1.length:Int) - 1))<=(p1.length:Int)))).bind fun _=>(jL (p1.take ((i64.wrap ((p1.length:Int) - 1)).toNat))).bind fun i=>(chk (And (0<=i) (i<=(p1.length:Int)))).bind fun _=>((cG n) (p0.1,p0.2.1,p0.2.2.1,p0.2.2.2.1,p0.2.2.2.2) (p1.take i.toNat)).bind fun e=>(chk (And (0<=i) (And (i<=(i64.wrap ((p1.length:Int) - 1))) ((i64.wrap ((p1.length:Int) - 1))<=(p1.length:Int))))).bind fun _=>((cG n) (e.2.1,e.2.2.1,e.2.2.2.1,e.2.2.2.2.1,e.2.2.2.2.2) ((p1.take ((i64.wrap ((p1.length:Int) - 1)).toNat)).drop i.toNat)).bind fun c=>if e.1.1 then (some ((true,orI e.1.2.1 c.1.2.1,orI e.1.2.2 c.1.2.2),c.2.1,c.2.2.1,c.2.2.2.1,c.2.2.2.2.1,c.2.2.2.2.2)) else (some ((c.1.1,orI e.1.2.1 c.1.2.1,orI e.1.2.2 c.1.2.2),c.2.1,c.2.2.1,c.2.2.2.1,c.2.2.2.2.1,c.2.2.2.2.2))) else (if g.1==6 then ((chk (And (0<=(i64.wrap ((p1.length:Int) - 1))) ((i64.wrap ((p1.length:Int) - 1))<=(p1.length:Int)))).bind fun _=>((cG n) (p0.1,p0.2.1,p0.2.2.1,p0.2.2.2.1,p0.2.2.2.2) (p1.take ((i64.wrap ((p1.length:Int) - 1)).toNat))).bind fun f=>(px (f.2.1,f.2.2.1,f.2.2.2.1,f.2.2.2.2.1,f.2.2.2.2.2) f.1.2.2 f.1.2.1).bind fun l=>some ((true,f.1.2.1,f.1.2.2),l.1,l.2.1,l.2.2.1,l.2.2.2.1,l.2.2.2.2)) else (some ((false,0,0),p0.1,p0.2.1,p0.2.2.1,p0.2.2.2.1,p0.2.2.2.2))))))
def eF (b:(List Yq1)×Bool) (a:Int×Int):Option (Out (RH×Bool) (Int×Int)):=
 if decide (a.2<(b.1.length:Int)) then (Option.bind (((aS b.1 a.2).bind fun c=>if c.1==3 then (some (i64.wrap (a.1+1))) else (some a.1):Option Int)) (fun d=>some (.nxt (d,i64.wrap (a.2+1))))) else (some (.brk (a.1,a.2)))
def dE (c:List Yq1):Option (RH×Bool):=
 (jc c).bind fun b=>if b.2 then (aO (ah (eF b) aU (0,0)) (fun d=>some d) (fun e=>if decide (e.1>20) then (some ((([] :List Int),0,0,([] :List Int),false),false)) else ((cG fP (([] :List Int),0,0,([] :List Int),false) b.1).bind fun a=>some ((a.2.1,a.1.2.1,a.1.2.2,a.2.2.2.2.1,a.1.1),true)))) else (some ((([] :List Int),0,0,([] :List Int),false),false))
def jM (b:(List Int)×Int×Int×(List Int)×Bool) (c:Int) (a:Int×Int):Option (Out Int (Int×Int)):=
 if decide (a.2<(b.1.length:Int)) then (Option.bind (((chk (0<=i64.wrap (a.2+1))).bind fun _=>if (rU (qc c (i64.wrap (a.2+1))) 1)==1 then ((aS b.2.2.2.1 a.2).bind fun d=>some (orI a.1 d)) else (some a.1):Option Int)) (fun e=>some (.nxt (e,i64.wrap (a.2+1))))) else (some (.brk (a.1,a.2)))
def jN (b:(List Int)×Int×Int×(List Int)×Bool) (c:Int) (d:Int×Int) (a:Int×Int):Option (Out Int (Int×Int)):=
 if decide (a.2<(b.1.length:Int)) then (Option.bind (((chk (0<=a.2)).bind fun _=>if (rU (qc d.1 a.2) 1)==1 then ((aS b.1 a.2).bind fun e=>if e==c then ((chk (0<=i64.wrap (a.2+1))).bind fun _=>some (orI a.1 (Dc 1 (i64.wrap (a.2+1))))) else (some a.1)) else (some a.1):Option Int)) (fun f=>some (.nxt (f,i64.wrap (a.2+1))))) else (some (.brk (a.1,a.2)))
def qm (a:(List Int)×Int×Int×(List Int)×Bool) (b:Int) (c:Int):Option Int:=
 Option.bind ((if (rU b 1)==1 then (some a.2.1) else (some 0):Option Int)) (fun d=>aO (ah (jM a b) aU (d,0)) (fun r=>some r) (fun e=>aO (ah (jN a c e) aU (0,0)) (fun r=>some r) (fun f=>some f.1)))
def qR (b:List Int) (c:Int) (a:Int):Option (Out Int Int):=
 if decide (a<(b.length:Int)) then ((aS b a).bind fun d=>if d==c then (some (.ret a)) else (some (.nxt (i64.wrap (a+1))))) else (some (.brk a))
def py (a:List Int) (b:Int):Option Int:=
 aO (ah (qR a b) aU 0) (fun r=>some r) (fun c=>some (-1))
def nD (a:(List Int)×Int×Int×(List Int)×Bool) (b:Int):Option Bool:=
 if (rU b 1)==1 then (if a.2.2.2.2 then (some true) else (some ((rU (qc b 1) a.2.2.1) !=0))) else (some ((rU (qc b 1) a.2.2.1) !=0))
def ky (b:(List Int)×Int×Int×(List Int)×Bool) (f:(List Int)×Int×Int×(List Bool)×(List (List Int))) (a:(List Int)×(List Int)×Int):Option (Out (Yq2×Bool) ((List Int)×(List Int)×Int)):=
 if decide (a.2.2<9) then ((aS a.1 f.2.1).bind fun g=>(qm (b.1,b.2.1,b.2.2.1,b.2.2.2.1,b.2.2.2.2) g a.2.2).bind fun c=>Option.bind ((if c !=0 then ((py a.1 c).bind fun d=>if decide (d<0) then ((bw 8 a.1 ([c])).bind fun h=>some (h,(a.1.length:Int))) else (some (a.1,d))) else (some (a.1,-1)):Option ((List Int)×Int))) (fun e=>(bw 8 a.2.1 ([e.2])).bind fun i=>some (.nxt (e.1,i,i64.wrap (a.2.2+1))))) else (some (.brk (a.1,a.2.1,a.2.2)))
def gU (b:(List Int)×Int×Int×(List Int)×Bool) (d:Int) (a:(List Int)×Int×Int×(List Bool)×(List (List Int))):Option (Out (Yq2×Bool) ((List Int)×Int×Int×(List Bool)×(List (List Int)))):=
 if decide (a.2.1<(a.1.length:Int)) then (aO (ah (ky b a) aU (a.1,([] :List Int),0)) (fun r=>some (.ret r)) (fun c=>if decide ((c.1.length:Int)>d) then (some (.ret ((0,[],[]),false))) else ((aS c.1 a.2.1).bind fun e=>(nD (b.1,b.2.1,b.2.2.1,b.2.2.2.1,b.2.2.2.2) e).bind fun f=>(bw 1 a.2.2.2.1 ([f])).bind fun g=>(bw 24 a.2.2.2.2 ([c.2.1])).bind fun h=>some (.nxt (c.1,i64.wrap (a.2.1+1),a.2.2.1,g,h))))) else (some (.brk (a.1,a.2.1,a.2.2.1,a.2.2.2.1,a.2.2.2.2)))
def fj (b:(List Int)×Int×Int×(List Int)×Bool) (c:Int):Option (Yq2×Bool):=
 aO (ah (gU b c) aU ([1],0,0,[],[])) (fun r=>some r) (fun a=>some ((a.2.2.1,a.2.2.2.1,a.2.2.2.2),true))
def zx (a:(List Int)×Int):Option (Out Yq2 ((List Int)×Int)):=
 if decide (a.2<9) then ((bw 8 a.1 ([-1])).bind fun b=>some (.nxt (b,i64.wrap (a.2+1)))) else (some (.brk (a.1,a.2)))
def qS:Option Yq2:=
 aO (ah (zx) aU (([] :List Int),0)) (fun r=>some r) (fun a=>some (0,[false],[a.1]))
def iU (f:Int×(List Bool)×(List (List Int))) (d:List Int) (g:List Bool) (h:(List Int)×(List Int)×Int×Int×(List Bool)×(List (List Int))) (a:(List Int)×(List Int)×(List Int)×Int):Option (Out Yq2 ((List Int)×(List Int)×(List Int)×Int)):=
 if decide (a.2.2.2<9) then ((aS a.2.1 h.2.2.1).bind fun i=>(aS f.2.2 i).bind fun j=>(aS j a.2.2.2).bind fun b=>Option.bind ((if decide (b≥0) then ((aS g b).bind fun k=>if k then ((aS d b).bind fun l=>(py a.1 l).bind fun e=>if decide (e<0) then ((aS d b).bind fun m=>(bw 8 a.1 ([m])).bind fun n=>(bw 8 a.2.1 ([b])).bind fun o=>some (n,o,(a.1.length:Int))) else (some (a.1,a.2.1,e))) else (some (a.1,a.2.1,-1))) else (some (a.1,a.2.1,-1)):Option ((List Int)×(List Int)×Int))) (fun c=>(bw 8 a.2.2.1 ([c.2.2])).bind fun p=>some (.nxt (c.1,c.2.1,p,i64.wrap (a.2.2.2+1))))) else (some (.brk (a.1,a.2.1,a.2.2.1,a.2.2.2)))
def lh (c:Int×(List Bool)×(List (List Int))) (d:List Int) (e:List Bool) (a:(List Int)×(List Int)×Int×Int×(List Bool)×(List (List Int))):Option (Out Yq2 ((List Int)×(List Int)×Int×Int×(List Bool)×(List (List Int)))):=
 if decide (a.2.2.1<(a.1.length:Int)) then (aO (ah (iU c d e a) aU (a.1,a.2.1,([] :List Int),0)) (fun r=>some (.ret r)) (fun b=>(aS b.2.1 a.2.2.1).bind fun f=>(aS c.2.1 f).bind fun g=>(bw 1 a.2.2.2.2.1 ([g])).bind fun h=>(bw 24 a.2.2.2.2.2 ([b.2.2.1])).bind fun i=>some (.nxt (b.1,b.2.1,i64.wrap (a.2.2.1+1),a.2.2.2.1,h,i)))) else (some (.brk (a.1,a.2.1,a.2.2.1,a.2.2.2.1,a.2.2.2.2.1,a.2.2.2.2.2)))
def kz (a:Int×(List Bool)×(List (List Int))) (d:List Int) (e:List Bool):Option Yq2:=
 (aS e a.1).bind fun f=>if f then ((aS d a.1).bind fun g=>aO (ah (lh a d e) aU ([g],[a.1],0,0,[],[])) (fun r=>some r) (fun b=>some (b.2.2.2.1,b.2.2.2.2.1,b.2.2.2.2.2))) else ((qS).bind fun c=>some (c.1,c.2.1,c.2.2))
def nE (c:Int×(List Bool)×(List (List Int))) (b:(List Bool)×Int) (a:(List Bool)×Int):Option (Out (List Bool) ((List Bool)×Int)):=
 if decide (a.2<9) then (Option.bind (((aS c.2.2 b.2).bind fun d=>(aS d a.2).bind fun e=>if decide (e≥0) then ((aS c.2.2 b.2).bind fun f=>(aS f a.2).bind fun g=>(aS a.1 g).bind fun h=>if h then ((aS a.1 b.2).bind fun j=>some (a.1.set b.2.toNat true)) else (some a.1)) else (some a.1):Option (List Bool))) (fun i=>some (.nxt (i,i64.wrap (a.2+1))))) else (some (.brk (a.1,a.2)))
def kN (b:Int×(List Bool)×(List (List Int))) (a:(List Bool)×Int):Option (Out (List Bool) ((List Bool)×Int)):=
 if decide (a.2<(b.2.1.length:Int)) then (aO (ah (nE b a) aU (a.1,0)) (fun r=>some (.ret r)) (fun c=>some (.nxt (c.1,i64.wrap (a.2+1))))) else (some (.brk (a.1,a.2)))
def nF (b:Int×(List Bool)×(List (List Int))) (a:(List Bool)×Int):Option (Out (List Bool) ((List Bool)×Int)):=
 if decide (a.2<(b.2.1.length:Int)) then (aO (ah (kN b) aU (a.1,0)) (fun r=>some (.ret r)) (fun c=>some (.nxt (c.1,i64.wrap (a.2+1))))) else (some (.brk (a.1,a.2)))
def na (a:Int×(List Bool)×(List (List Int))):Option (List Bool):=
 (bw 1 ([] :List Bool) a.2.1).bind fun b=>aO (ah (nF a) aU (b,0)) (fun r=>some r) (fun c=>some c.1)
def oN (c:Int×(List Bool)×(List (List Int))) (d:List Int) (e:Int) (a:(List Int)×Int):Option XZ:=
 if decide (a.2<9) then (Option.bind (((aS c.2.2 e).bind fun f=>(aS f a.2).bind fun b=>if decide (b<0) then ((bw 8 a.1 ([-1])).bind fun g=>some g) else ((aS d b).bind fun h=>(bw 8 a.1 ([h])).bind fun i=>some i):Option (List Int))) (fun j=>some (.nxt (j,i64.wrap (a.2+1))))) else (some (.brk (a.1,a.2)))
def rl (c:Int×(List Bool)×(List (List Int))) (a:List Int) (b:Int):Option (List Int):=
 (aS a b).bind fun d=>aO (ah (oN c a b) aU ([d],0)) (fun r=>some r) (fun e=>some e.1)
def gV (b:Int×(List Bool)×List (List Int)) (c:List Bool) (a:(List Int)×Int):Option XZ:=
 if decide (a.2<(b.2.1.length:Int)) then ((aS b.2.1 a.2).bind fun d=>Option.bind ((if d then (some 1) else (some 0):Option Int)) (fun e=>(aS c a.2).bind fun f=>Option.bind ((if f then (some e) else (some (-1)):Option Int)) (fun g=>(bw 8 a.1 ([g])).bind fun h=>some (.nxt (h,i64.wrap (a.2+1)))))) else (some (.brk (a.1,a.2)))
def gW (b:(List (List Int))×(List Int)×Int) (c:List Int) (a:Int×Int):Option (Out (List Int) (Int×Int)):=
 if decide (a.2<(b.1.length:Int)) then (Option.bind (((aS b.1 a.2).bind fun d=>(nT d c).bind fun e=>if e==0 then (some a.2) else (some a.1):Option Int)) (fun f=>some (.nxt (f,i64.wrap (a.2+1))))) else (some (.brk (a.1,a.2)))
def gX (b:Int×(List Bool)×List (List Int)) (c:(List Int)×Int) (a:(List (List Int))×(List Int)×Int):Option (Out (List Int) ((List (List Int))×(List Int)×Int)):=
 if decide (a.2.2<(b.2.1.length:Int)) then (Option.bind (((aS c.1 a.2.2).bind fun h=>if decide (h<0) then ((bw 8 a.2.1 ([(-1)])).bind fun i=>some (a.1,i)) else ((rl (b.1,b.2.1,b.2.2) c.1 a.2.2).bind fun d=>aO (ah (gW a d) aU ((-1),0)) (fun l=>none) (fun e=>Option.bind ((if decide (e.1<0) then ((bw 24 a.1 ([d])).bind fun j=>some (j,(a.1.length:Int))) else (some (a.1,e.1)):Option ((List (List Int))×Int))) (fun f=>(bw 8 a.2.1 ([f.2])).bind fun k=>some (f.1,k)))):Option ((List (List Int))×List Int))) (fun g=>some (.nxt (g.1,g.2,i64.wrap (a.2.2+1))))) else (some (.brk (a.1,a.2.1,a.2.2)))
def nc (b:Int×(List Bool)×List (List Int)) (a:(List Int)×Int):Option XZ:=
 if decide (a.2<=(b.2.1.length:Int)) then (aO (ah (gX b a) aU (([] :List (List Int)),([] :List Int),0)) (fun d=>some (.ret d)) (fun c=>(nT c.2.1 a.1).bind fun e=>if e==0 then (some (.ret a.1)) else (some (.nxt (c.2.1,i64.wrap (a.2+1)))))) else (some (.brk (a.1,a.2)))
def kO (a:Int×(List Bool)×List (List Int)):Option (List Int):=
 (na (a.1,a.2.1,a.2.2)).bind fun b=>aO (ah (gV a b) aU (([] :List Int),0)) (fun c=>some c) (fun d=>aO (ah (nc a) aU (d.1,0)) (fun e=>some e) (fun f=>some f.1))
def gY (a:Int×(List Bool)×(List (List Int))):Option Yq2:=
 (kO (a.1,a.2.1,a.2.2)).bind fun c=>(na (a.1,a.2.1,a.2.2)).bind fun d=>(kz (a.1,a.2.1,a.2.2) c d).bind fun b=>some (b.1,b.2.1,b.2.2)
def m_s_CompileExpr (d:(List Yq1)):Option (Yq2×Bool):=
 (dE d).bind fun a=>if a.2 then ((fj (a.1.1,a.1.2.1,a.1.2.2.1,a.1.2.2.2.1,a.1.2.2.2.2) 200).bind fun b=>if b.2 then ((gY (b.1.1,b.1.2.1,b.1.2.2)).bind fun c=>if decide ((c.2.1.length:Int)>12) then (some ((0,[],[]),false)) else (some ((c.1,c.2.1,c.2.2),true))) else (some ((0,[],[]),false))) else (some ((0,[],[]),false))
def gN (b:Int×(List Bool)×(List (List Int))) (c:Int×(List Bool)×(List (List Int))) (a:Int):Option (Out Bool Int):=
 if decide (a<(b.2.1.length:Int)) then ((aS b.2.1 a).bind fun d=>(aS c.2.1 a).bind fun e=>if d !=e then (some (.ret false)) else (some (.nxt (i64.wrap (a+1))))) else (some (.brk a))
def gO (b:Int×(List Bool)×(List (List Int))) (c:Int×(List Bool)×(List (List Int))) (a:Int):Option (Out Bool Int):=
 if decide (a<(b.2.2.length:Int)) then ((aS b.2.2 a).bind fun d=>(aS c.2.2 a).bind fun e=>(nT d e).bind fun f=>if f !=0 then (some (.ret false)) else (some (.nxt (i64.wrap (a+1))))) else (some (.brk a))
def gZ (a:Int×(List Bool)×(List (List Int))) (b:Int×(List Bool)×(List (List Int))):Option Bool:=
 if a.1 !=b.1 then (some false) else (if (a.2.1.length:Int) !=(b.2.1.length:Int) then (some false) else (if (a.2.2.length:Int) !=(b.2.2.length:Int) then (some false) else (aO (ah (gN a b) aU 0) (fun r=>some r) (fun c=>aO (ah (gO a b) aU 0) (fun r=>some r) (fun d=>some true)))))
def eG (d:List Yq2) (b:Int×(List Bool)×(List (List Int))) (a:Int):Option (Out Int Int):=
 if decide (a<(d.length:Int)) then ((aS d a).bind fun c=>(gZ (c.1,c.2.1,c.2.2) (b.1,b.2.1,b.2.2)).bind fun e=>if e then (some (.ret a)) else (some (.nxt (i64.wrap (a+1))))) else (some (.brk a))
def ga (a:List Yq2) (b:Int×(List Bool)×(List (List Int))):Option Int:=
 aO (ah (eG a b) aU 0) (fun r=>some r) (fun c=>some (-1))
def bz (c:List GJ) (a:Int×(List Yq2)×Yq3):Option (Out (wM×Bool) RJ):=
 if decide (a.1<(c.length:Int)) then ((aS c a.1).bind fun h=>(m_s_CompileExpr h.2.1).bind fun b=>if b.2 then ((aS c a.1).bind fun i=>(cy i.1 1 99).bind fun j=>if j then (if decide (a.1>0) then ((aS c (i64.wrap (a.1 - 1))).bind fun k=>(aS c a.1).bind fun l=>if decide (k.1≥l.1) then (some (.ret (([],[]),false))) else ((ga a.2.1 (b.1.1,b.1.2.1,b.1.2.2)).bind fun f=>Option.bind ((if decide (f<0) then ((bw 56 a.2.1 ([(b.1.1,b.1.2.1,b.1.2.2)])).bind fun m=>some ((a.2.1.length:Int),m,a.2.2)) else (some (f,a.2.1,a.2.2)):Option RJ)) (fun d=>(aS c a.1).bind fun n=>(aS c a.1).bind fun o=>(fR o.2.1).bind fun p=>(bw 40 d.2.2 ([(n.1,p,d.1)])).bind fun q=>some (.nxt (i64.wrap (a.1+1),d.2.1,q))))) else ((ga a.2.1 (b.1.1,b.1.2.1,b.1.2.2)).bind fun g=>Option.bind ((if decide (g<0) then ((bw 56 a.2.1 ([(b.1.1,b.1.2.1,b.1.2.2)])).bind fun r=>some ((a.2.1.length:Int),r,a.2.2)) else (some (g,a.2.1,a.2.2)):Option RJ)) (fun e=>(aS c a.1).bind fun s=>(aS c a.1).bind fun t=>(fR t.2.1).bind fun u=>(bw 40 e.2.2 ([(s.1,u,e.1)])).bind fun v=>some (.nxt (i64.wrap (a.1+1),e.2.1,v))))) else (some (.ret (([],[]),false)))) else (some (.ret (([],[]),false)))) else (some (.brk (a.1,a.2.1,a.2.2)))
def cH (a:List GJ):Option (wM×Bool):=
 if decide ((a.length:Int)>4) then (some (([],[]),false)) else (aO (ah (bz a) aU (0,[],[])) (fun r=>some r) (fun b=>some ((b.2.1,b.2.2),true)))
def kA (d:(List Yq1)) (e:(List Yq1)) (a:Int):Option (Out Bool Int):=
 if decide (a<(d.length:Int)) then ((aS d a).bind fun b=>(aS e a).bind fun c=>if (b.1==c.1)&&((b.2.1==c.2.1)&&((b.2.2.1==c.2.2.1)&&((b.2.2.2==c.2.2.2)&&true))) then (some (.nxt (i64.wrap (a+1)))) else (some (.ret false))) else (some (.brk a))
def qT (a:(List Yq1)) (b:(List Yq1)):Option Bool:=
 if (a.length:Int) !=(b.length:Int) then (some false) else (aO (ah (kA a b) aU 0) (fun r=>some r) (fun c=>some true))
def fJ (d:(List Yq2)×Yq3) (e:(List Yq2)×Yq3) (a:Int):Option (Out Bool Int):=
 if decide (a<(d.1.length:Int)) then ((aS d.1 a).bind fun b=>(aS e.1 a).bind fun c=>(gZ (b.1,b.2.1,b.2.2) (c.1,c.2.1,c.2.2)).bind fun f=>if f then (some (.nxt (i64.wrap (a+1)))) else (some (.ret false))) else (some (.brk a))
def fK (b:(List Yq2)×Yq3) (c:(List Yq2)×Yq3) (a:Int):Option (Out Bool Int):=
 if decide (a<(b.2.length:Int)) then ((aS b.2 a).bind fun d=>(aS c.2 a).bind fun e=>if d.1 !=e.1 then (some (.ret false)) else ((aS b.2 a).bind fun f=>(aS c.2 a).bind fun g=>(qT f.2.1 g.2.1).bind fun h=>if h then ((aS b.2 a).bind fun i=>(aS c.2 a).bind fun j=>if i.2.2 !=j.2.2 then (some (.ret false)) else (some (.nxt (i64.wrap (a+1))))) else (some (.ret false)))) else (some (.brk a))
def iI (a:(List Yq2)×Yq3) (b:(List Yq2)×Yq3):Option Bool:=
 if (a.1.length:Int) !=(b.1.length:Int) then (some false) else (if (a.2.length:Int) !=(b.2.length:Int) then (some false) else (aO (ah (fJ a b) aU 0) (fun r=>some r) (fun c=>aO (ah (fK a b) aU 0) (fun r=>some r) (fun d=>some true))))
def m_s_IsValidRegistry (a:(List Yq2)×Yq3):Option Bool:=
 (cH a.2).bind fun b=>if b.2 then ((iI (b.1.1,b.1.2) (a.1,a.2)).bind fun c=>some c) else (some false)
def aF (a:Int×(List Yq6)):Option Int:=
 (m_s_IsValidHistory (a.1,a.2)).bind fun b=>if b then (some (i64.wrap ((i64.wrap (a.1+(a.2.length:Int))) - 1))) else (some 0)
def dh (b:(List Yq2)×Yq3) (c:Int) (a:Int):Option (Out Int Int):=
 if decide (a<(b.2.length:Int)) then ((aS b.2 a).bind fun d=>if d.1==c then (some (.ret a)) else (some (.nxt (i64.wrap (a+1))))) else (some (.brk a))
def cD (a:(List Yq2)×Yq3) (b:Int):Option Int:=
 aO (ah (dh a b) aU 0) (fun r=>some r) (fun c=>some (-1))
def cj (a:A8×wM×Yq8×ByteArray) (b:Int):Option (Out Bool Int):=
 if decide (b<(a.2.2.1.length:Int)) then ((aS a.2.2.1 b).bind fun c=>(cy c.1 1 99).bind fun d=>if d then (if decide (b>0) then ((aS a.2.2.1 (i64.wrap (b - 1))).bind fun e=>if decide (e.1≥c.1) then (some (.ret false)) else ((cD (a.2.1.1,a.2.1.2) c.2.1).bind fun f=>if decide (f<0) then (some (.ret false)) else ((aF (a.1.1,a.1.2)).bind fun g=>(cy c.2.2 0 g).bind fun h=>if h then (some (.nxt (i64.wrap (b+1)))) else (some (.ret false))))) else ((cD (a.2.1.1,a.2.1.2) c.2.1).bind fun i=>if decide (i<0) then (some (.ret false)) else ((aF (a.1.1,a.1.2)).bind fun j=>(cy c.2.2 0 j).bind fun k=>if k then (some (.nxt (i64.wrap (b+1)))) else (some (.ret false))))) else (some (.ret false))) else (some (.brk b))
def si (a:A8×wM×Yq8×ByteArray):Option Bool:=
 aO (ah (cj a) aU 0) (fun r=>some r) (fun b=>some (decide ((a.2.2.1.length:Int)<=4)))
def eU (a:Int×ByteArray):Option (Out ByteArray (Int×ByteArray)):=
 if a.1 !=0 then (Option.bind ((if decide ((Int.tmod a.1 10)<0) then (some (i64.wrap (-(Int.tmod a.1 10)))) else (some (Int.tmod a.1 10)):Option Int)) (fun b=>(jA (nR ([IntKind.u8.wrap (i64.wrap (48+b))])) a.2).bind fun c=>some (.nxt (GH a.1 10,c)))) else (some (.brk (a.1,a.2)))
def cr (a:Int):Option ByteArray:=
 if a==0 then (some (⟨#[48]⟩)) else (aO (ah (eU) aU (a,(⟨#[]⟩:ByteArray))) (fun c=>some c) (fun b=>if decide (a<0) then ((jA (⟨#[45]⟩) b.2).bind fun d=>some d) else (some b.2)))
def fS (a:Int):Option ByteArray:=
 (nU a).bind fun b=>if b then ((aS ([(⟨#[97]⟩:ByteArray),(⟨#[97,45]⟩:ByteArray),(⟨#[98]⟩:ByteArray),(⟨#[98,45]⟩:ByteArray),(⟨#[99]⟩:ByteArray),(⟨#[99,45]⟩:ByteArray),(⟨#[48]⟩:ByteArray),(⟨#[49]⟩:ByteArray),(⟨#[50]⟩:ByteArray)]) a).bind fun c=>some c) else (some (⟨#[]⟩:ByteArray))
def kP (a:Int×Int×Int×Int):Option ByteArray:=
 (cy a.1 1 99).bind fun b=>if b then ((cy a.2.1 0 4).bind fun c=>if c then ((cy a.2.2.1 0 4).bind fun d=>if d then ((cy a.2.2.2 0 2).bind fun e=>if e then ((cr a.1).bind fun f=>(jA f (⟨#[58]⟩)).bind fun g=>(cr a.2.1).bind fun h=>(jA g h).bind fun i=>(fS (i64.wrap (2*a.2.2.2))).bind fun j=>(jA i j).bind fun k=>(cr a.2.2.1).bind fun l=>(jA k l).bind fun m=>some m) else (some ((⟨#[]⟩:ByteArray)))) else (some ((⟨#[]⟩:ByteArray)))) else (some ((⟨#[]⟩:ByteArray)))) else (some ((⟨#[]⟩:ByteArray)))
def gb (c:List Yq4) (a:ByteArray×Int):Option (Out ByteArray (ByteArray×Int)):=
 if decide (a.2<(c.length:Int)) then (fO (S:=ByteArray) ((aS c a.2).bind fun b=>(kP (b.2.1,b.2.2.1,b.2.2.2.1,b.2.2.2.2)).bind fun d=>if d==((⟨#[]⟩:ByteArray)) then (some (.inl (.ret ((⟨#[]⟩:ByteArray))))) else (Option.bind ((if decide (a.2>0) then ((jA a.1 (⟨#[32]⟩)).bind fun f=>some f) else (some a.1):Option ByteArray)) (fun e=>(aS c a.2).bind fun g=>if g.1 then ((jA e (⟨#[43]⟩)).bind fun h=>(jA h d).bind fun i=>some (.inr i)) else ((jA e (⟨#[45]⟩)).bind fun j=>(jA j d).bind fun k=>some (.inr k))))) (fun l=>some (.nxt (l,i64.wrap (a.2+1))))) else (some (.brk (a.1,a.2)))
def dF (a:List Yq4):Option ByteArray:=
 if decide ((a.length:Int)>6) then (some ((⟨#[]⟩:ByteArray))) else (aO (ah (gb a) aU ((⟨#[]⟩:ByteArray),0)) (fun b=>some b) (fun c=>some c.1))
def hO (b:ByteArray) (a:Int×Int):Option (Out Int (Int×Int)):=
 if decide (a.2<((b.size:Nat):Int)) then ((jB b a.2).bind fun c=>some (.nxt (Int.tmod (i64.wrap ((i64.wrap ((i64.wrap (a.1*257))+(i64.wrap c)))+1)) 9973,i64.wrap (a.2+1)))) else (some (.brk (a.1,a.2)))
def iB (a:ByteArray):Option Int:=
 aO (ah (hO a) aU (1,0)) (fun b=>some b) (fun c=>some c.1)
def di (b:Int) (a:List Yq4):Option ByteArray:=
 (cy b 1 999).bind fun e=>if e then (if decide ((a.length:Int)>0) then ((dF a).bind fun f=>if f==((⟨#[]⟩:ByteArray)) then (some ((⟨#[]⟩:ByteArray))) else ((cr b).bind fun g=>(jA g (⟨#[59]⟩)).bind fun h=>(dF a).bind fun i=>(jA h i).bind fun j=>(jA j (⟨#[59]⟩)).bind fun c=>(iB c).bind fun k=>(cr k).bind fun l=>(jA c l).bind fun m=>(jA m (⟨#[10]⟩)).bind fun n=>some n)) else ((cr b).bind fun o=>(jA o (⟨#[59]⟩)).bind fun p=>(dF a).bind fun q=>(jA p q).bind fun r=>(jA r (⟨#[59]⟩)).bind fun d=>(iB d).bind fun s=>(cr s).bind fun t=>(jA d t).bind fun u=>(jA u (⟨#[10]⟩)).bind fun v=>some v)) else (some ((⟨#[]⟩:ByteArray)))
def qn (b:ByteArray) (d:Int) (a:(List ByteArray)×Int×Int):Option (Out (List ByteArray) ((List ByteArray)×Int×Int)):=
 if decide (a.2.2<((b.size:Nat):Int)) then (Option.bind (((jB b a.2.2).bind fun e=>if e==d then ((lG b a.2.1 a.2.2).bind fun f=>(bw 16 a.1 ([f])).bind fun g=>some (g,i64.wrap (a.2.2+1))) else (some (a.1,a.2.1)):Option ((List ByteArray)×Int))) (fun c=>some (.nxt (c.1,c.2,i64.wrap (a.2.2+1))))) else (some (.brk (a.1,a.2.1,a.2.2)))
def hY (a:ByteArray) (c:Int):Option (List ByteArray):=
 aO (ah (qn a c) aU (([] :List ByteArray),0,0)) (fun d=>some d) (fun b=>(lG a b.2.1 ((a.size:Nat):Int)).bind fun e=>(bw 16 b.1 ([e])).bind fun f=>some f)
def jO (b:ByteArray) (a:Int×Int×Int):Option (Out (Int×Bool) GK):=
 if decide (a.2.2<((b.size:Nat):Int)) then (if decide (a.2.2<11) then (Option.bind (((jB b a.2.2).bind fun d=>if decide (d≥48) then ((jB b a.2.2).bind fun e=>if decide (e<=57) then ((jB b a.2.2).bind fun f=>some (i64.wrap ((i64.wrap (a.1*10))+(i64.wrap (IntKind.u8.wrap (f - 48)))),i64.wrap (a.2.1+1))) else (some (a.1,a.2.1))) else (some (a.1,a.2.1)):Option (Int×Int))) (fun c=>some (.nxt (c.1,c.2,i64.wrap (a.2.2+1))))) else (some (.brk (a.1,a.2.1,a.2.2)))) else (some (.brk (a.1,a.2.1,a.2.2)))
def iC (a:ByteArray):Option (Int×Bool):=
 aO (ah (jO a) aU (0,0,0)) (fun e=>some e) (fun b=>if decide (((a.size:Nat):Int)>0) then ((jB a 0).bind fun f=>Option.bind ((if f==45 then (some (i64.wrap (-b.1))) else (some b.1):Option Int)) (fun c=>if decide (b.2.1>9) then (some (0,false)) else (if decide (((a.size:Nat):Int)>10) then (some (0,false)) else ((cr c).bind fun g=>if g !=a then (some (0,false)) else (some (c,true)))))) else (Option.bind ((some b.1:Option Int)) (fun d=>if decide (b.2.1>9) then (some (0,false)) else (if decide (((a.size:Nat):Int)>10) then (some (0,false)) else ((cr d).bind fun h=>if h !=a then (some (0,false)) else (some (d,true)))))))
def mj (b:ByteArray) (a:Int):Option (Out (Int×Bool) Int):=
 if decide (a<9) then ((fS a).bind fun c=>if c==b then (some (.ret (a,true))) else (some (.nxt (i64.wrap (a+1))))) else (some (.brk a))
def hZ (a:ByteArray):Option (Int×Bool):=
 aO (ah (mj a) aU 0) (fun r=>some r) (fun b=>some (0,false))
def iJ (b:ByteArray):Option (Yq1×Bool):=
 (hY b 58).bind fun a=>if (a.length:Int) !=2 then (some ((0,0,0,0),false)) else ((aS a 1).bind fun g=>if ((g.size:Nat):Int) !=3 then (some ((0,0,0,0),false)) else ((aS a 0).bind fun h=>(iC h).bind fun c=>(aS a 1).bind fun i=>(lG i 1 2).bind fun j=>(hZ j).bind fun d=>(aS a 1).bind fun k=>(jB k 0).bind fun e=>(aS a 1).bind fun l=>(jB l 2).bind fun f=>(kP (c.1,i64.wrap ((i64.wrap e) - 48),i64.wrap ((i64.wrap f) - 48),GH d.1 2)).bind fun m=>if m !=b then (some ((0,0,0,0),false)) else (some ((c.1,i64.wrap ((i64.wrap e) - 48),i64.wrap ((i64.wrap f) - 48),GH d.1 2),true))))
def dR (c:List ByteArray) (a:Int×List Yq4):Option (Out ((List Yq4)×Bool) (Int×List Yq4)):=
 if decide (a.1<(c.length:Int)) then (if decide (a.1<=6) then ((aS c a.1).bind fun e=>if decide (((e.size:Nat):Int)<2) then (some (.ret (([] :List Yq4),false))) else ((aS c a.1).bind fun d=>(lG d 1 ((d.size:Nat):Int)).bind fun f=>(iJ f).bind fun b=>if b.2 then ((aS c a.1).bind fun g=>(jB g 0).bind fun h=>(bw 40 a.2 ([(h==43,b.1.1,b.1.2.1,b.1.2.2.1,b.1.2.2.2)])).bind fun i=>some (.nxt (i64.wrap (a.1+1),i))) else (some (.ret (([] :List Yq4),false))))) else (some (.brk (a.1,a.2)))) else (some (.brk (a.1,a.2)))
def gD (a:ByteArray):Option ((List Yq4)×Bool):=
 if a==((⟨#[]⟩:ByteArray)) then (some (([] :List Yq4),true)) else ((hY a 32).bind fun c=>aO (ah (dR c) aU (0,([] :List Yq4))) (fun d=>some d) (fun b=>(dF b.2).bind fun e=>if e !=a then (some (([] :List Yq4),false)) else (some (b.2,true))))
def fT (d:ByteArray):Option (Int×((List (Bool×Yq1)))×Bool):=
 (hY d 59).bind fun a=>if (a.length:Int) !=3 then (some (0,[],false)) else ((aS a 0).bind fun e=>(iC e).bind fun b=>(aS a 1).bind fun f=>(gD f).bind fun c=>if b.2 then (if c.2 then ((di b.1 c.1).bind fun g=>if g !=d then (some (0,[],false)) else (some (b.1,c.1,true))) else (some (0,[],false))) else (some (0,[],false)))
def aN (c:ByteArray) (a:(List Int)×(List (List Yq4))×Int×Int):Option (Out ((List Int)×(List (List Yq4))×Int) ((List Int)×(List (List Yq4))×Int×Int)):=
 if decide (a.2.2.2<((c.size:Nat):Int)) then (if decide (((c.size:Nat):Int)<=4000) then (fO (S:=(List Int)×(List (List Yq4))×Int) ((jB c a.2.2.2).bind fun e=>if e !=10 then (some (.inr (a.1,a.2.1,a.2.2.1))) else ((lG c a.2.2.1 (i64.wrap (a.2.2.2+1))).bind fun f=>(fT f).bind fun b=>if b.2.2 then (if decide ((a.1.length:Int)>0) then ((aS a.1 (i64.wrap ((a.1.length:Int) - 1))).bind fun g=>if b.1 !=(i64.wrap (g+1)) then (some (.inl (.ret (a.1,a.2.1,a.2.2.1)))) else ((bw 8 a.1 ([b.1])).bind fun h=>(bw 24 a.2.1 ([b.2.1])).bind fun i=>some (.inr (h,i,i64.wrap (a.2.2.2+1))))) else ((bw 8 a.1 ([b.1])).bind fun j=>(bw 24 a.2.1 ([b.2.1])).bind fun k=>some (.inr (j,k,i64.wrap (a.2.2.2+1))))) else (some (.inl (.ret (a.1,a.2.1,a.2.2.1)))))) (fun d=>some (.nxt (d.1,d.2.1,d.2.2,i64.wrap (a.2.2.2+1))))) else (some (.brk (a.1,a.2.1,a.2.2.1,a.2.2.2)))) else (some (.brk (a.1,a.2.1,a.2.2.1,a.2.2.2)))
def m_s_ScanLog (b:ByteArray):Option ((List Int)×(List (List Yq4))×Int):=
 aO (ah (aN b) aU (([] :List Int),([] :List (List Yq4)),0,0)) (fun c=>some c) (fun a=>some (a.1,a.2.1,a.2.2.1))
def vd (a:A8×wM×Yq8×ByteArray):Option Bool:=
 (m_s_ScanLog a.2.2.2).bind fun b=>if b.2.2==(a.2.2.2.size:Int) then (if decide ((a.2.2.2.size:Int)<=4000) then (if (b.1.length:Int)==0 then (some true) else ((aS b.1 (i64.wrap ((b.1.length:Int) - 1))).bind fun c=>(aF (a.1.1,a.1.2)).bind fun d=>some (c==d))) else (some false)) else (some false)
def bh (a:A8×wM×Yq8×ByteArray):Option Bool:=
 (m_s_IsValidHistory (a.1.1,a.1.2)).bind fun b=>if b then ((m_s_IsValidRegistry (a.2.1.1,a.2.1.2)).bind fun c=>if c then ((si ((a.1.1,a.1.2),(a.2.1.1,a.2.1.2),a.2.2.1,a.2.2.2)).bind fun d=>if d then ((vd ((a.1.1,a.1.2),(a.2.1.1,a.2.1.2),a.2.2.1,a.2.2.2)).bind fun e=>some e) else (some false)) else (some false)) else (some false)
def cn (a:(List Int)×(List Yq1)):Option Yq6:=
 (bw 8 ([] :List Int) a.1).bind fun b=>(bw 32 ([] :List Yq1) a.2).bind fun c=>some (b,c)
def fb (b:Int×(List Yq6)) (a:Int×Int×(List Yq6)):Option (Out A8 (Int×Int×(List Yq6))):=
 if decide (a.1<(b.2.length:Int)) then ((aS b.2 a.1).bind fun c=>(cn (c.1,c.2)).bind fun d=>(bw 48 a.2.2 ([(d.1,d.2)])).bind fun e=>some (.nxt (i64.wrap (a.1+1),a.2.1,e))) else (some (.brk (a.1,a.2.1,a.2.2)))
def kB (a:Int×(List Yq6)):Option A8:=
 aO (ah (fb a) aU (0,a.1,[])) (fun r=>some r) (fun b=>some (b.2.1,b.2.2))
def kQ (b:Int×(List Bool)×(List (List Int))) (a:Int×Int×(List Bool)×(List (List Int))):Option (Out Yq2 (Int×Int×(List Bool)×(List (List Int)))):=
 if decide (a.1<(b.2.2.length:Int)) then ((aS b.2.2 a.1).bind fun c=>(bw 8 ([] :List Int) c).bind fun d=>(bw 24 a.2.2.2 ([d])).bind fun e=>some (.nxt (i64.wrap (a.1+1),a.2.1,a.2.2.1,e))) else (some (.brk (a.1,a.2.1,a.2.2.1,a.2.2.2)))
def pz (a:Int×(List Bool)×(List (List Int))):Option Yq2:=
 (bw 1 ([] :List Bool) a.2.1).bind fun c=>aO (ah (kQ a) aU (0,a.1,c,[])) (fun r=>some r) (fun b=>some (b.2.1,b.2.2.1,b.2.2.2))
def kR (d:(List Yq2)×Yq3) (a:Int×(List Yq2)×Yq3):Option (Out wM RJ):=
 if decide (a.1<(d.1.length:Int)) then ((aS d.1 a.1).bind fun b=>(pz (b.1,b.2.1,b.2.2)).bind fun c=>(bw 56 a.2.1 ([(c.1,c.2.1,c.2.2)])).bind fun e=>some (.nxt (i64.wrap (a.1+1),e,a.2.2))) else (some (.brk (a.1,a.2.1,a.2.2)))
def kS (c:(List Yq2)×Yq3) (a:Int×(List Yq2)×Yq3):Option (Out wM RJ):=
 if decide (a.1<(c.2.length:Int)) then ((aS c.2 a.1).bind fun b=>(fR b.2.1).bind fun d=>(bw 40 a.2.2 ([(b.1,d,b.2.2)])).bind fun e=>some (.nxt (i64.wrap (a.1+1),a.2.1,e))) else (some (.brk (a.1,a.2.1,a.2.2)))
def lI (a:(List Yq2)×Yq3):Option wM:=
 aO (ah (kR a) aU (0,[],[])) (fun r=>some r) (fun b=>aO (ah (kS a) aU (0,b.2.1,b.2.2)) (fun r=>some r) (fun c=>some (c.2.1,c.2.2)))
def gE (a:A8×wM×Yq8×ByteArray):Option RI:=
 (kB (a.1.1,a.1.2)).bind fun b=>(lI (a.2.1.1,a.2.1.2)).bind fun c=>(bw 24 ([] :List GK) a.2.2.1).bind fun d=>some ((b.1,b.2),(c.1,c.2),d,a.2.2.2)
def cL (b:(List Int)×(List Yq1)) (c:Int) (a:Int):Option (Out Int Int):=
 if decide (a<(b.2.length:Int)) then ((aS b.2 a).bind fun d=>if d.1==c then (some (.ret a)) else (some (.nxt (i64.wrap (a+1))))) else (some (.brk a))
def cM (a:(List Int)×(List Yq1)) (b:Int):Option Int:=
 aO (ah (cL a b) aU 0) (fun r=>some r) (fun c=>some (-1))
def dS (b:(List Int)×(List Yq1)) (c:Int×Int×Int×Int) (a:Int):Option (Out (Yq6×Bool) Int):=
 if decide (a<(b.2.length:Int)) then ((aS b.2 a).bind fun d=>if decide (d.1<c.1) then (some (.nxt (i64.wrap (a+1)))) else (some (.brk a))) else (some (.brk a))
def jd (a:(List Int)×(List Yq1)) (b:Int×Int×Int×Int):Option (Yq6×Bool):=
 (bI (a.1,a.2)).bind fun h=>if h then ((u9 (a.1,a.2) (b.1,b.2.1,b.2.2.1,b.2.2.2)).bind fun i=>if i then ((cM (a.1,a.2) b.1).bind fun j=>if decide (j≥0) then ((cn (a.1,a.2)).bind fun d=>some ((d.1,d.2),false)) else (if (a.2.length:Int)==12 then ((cn (a.1,a.2)).bind fun e=>some ((e.1,e.2),false)) else (aO (ah (dS a b) aU 0) (fun r=>some r) (fun c=>(bw 8 ([] :List Int) a.1).bind fun k=>(chk (0<=c/\c<=(a.2.length:Int))).bind fun _=>(bw 32 ([] :List Yq1) (a.2.take c.toNat)).bind fun l=>(bw 32 l ([(b.1,b.2.1,b.2.2.1,b.2.2.2)])).bind fun m=>(chk (0<=c/\c<=(a.2.length:Int))).bind fun _=>(bw 32 m (a.2.drop c.toNat)).bind fun n=>some ((k,n),true))))) else ((cn (a.1,a.2)).bind fun f=>some ((f.1,f.2),false))) else ((cn (a.1,a.2)).bind fun g=>some ((g.1,g.2),false))
def je (a:(List Int)×(List Yq1)) (e:Int):Option (Yq6×Bool):=
 (cM (a.1,a.2) e).bind fun b=>(bI (a.1,a.2)).bind fun f=>if f then (if decide (b<0) then ((cn (a.1,a.2)).bind fun c=>some ((c.1,c.2),false)) else ((bw 8 ([] :List Int) a.1).bind fun g=>(chk (0<=b/\b<=(a.2.length:Int))).bind fun _=>(bw 32 ([] :List Yq1) (a.2.take b.toNat)).bind fun h=>(chk (0<=i64.wrap (b+1)/\i64.wrap (b+1)<=(a.2.length:Int))).bind fun _=>(bw 32 h (a.2.drop (i64.wrap (b+1)).toNat)).bind fun i=>some ((g,i),true))) else ((cn (a.1,a.2)).bind fun d=>some ((d.1,d.2),false))
def eA (c:(List Int)×(List Yq1)) (e:(List (Bool×Yq1))) (a:Int×(List Int)×(List Yq1)):Option (Out (Yq6×Bool) (Int×(List Int)×(List Yq1))):=
 if decide (a.1<(e.length:Int)) then (if decide (a.1<=6) then (fO (S:=(List Int)×(List Yq1)) ((aS e a.1).bind fun b=>(aS e a.1).bind fun n=>if n.1 then ((jd (a.2.1,a.2.2) (b.2.1,b.2.2.1,b.2.2.2.1,b.2.2.2.2)).bind fun f=>if f.2 then (some (.inr (f.1.1,f.1.2))) else ((cn (c.1,c.2)).bind fun h=>some (.inl (.ret ((h.1,h.2),false))))) else ((cM (a.2.1,a.2.2) b.2.1).bind fun i=>if decide (i<0) then ((cn (c.1,c.2)).bind fun j=>some (.inl (.ret ((j.1,j.2),false)))) else ((aS a.2.2 i).bind fun d=>if (d.1==b.2.1)&&((d.2.1==b.2.2.1)&&((d.2.2.1==b.2.2.2.1)&&((d.2.2.2==b.2.2.2.2)&&true))) then ((je (a.2.1,a.2.2) b.2.1).bind fun g=>if g.2 then (some (.inr (g.1.1,g.1.2))) else ((cn (c.1,c.2)).bind fun k=>some (.inl (.ret ((k.1,k.2),false))))) else ((cn (c.1,c.2)).bind fun l=>some (.inl (.ret ((l.1,l.2),false))))))) (fun m=>some (.nxt (i64.wrap (a.1+1),m.1,m.2)))) else (some (.brk (a.1,a.2.1,a.2.2)))) else (some (.brk (a.1,a.2.1,a.2.2)))
def dU (a:(List Int)×(List Yq1)) (d:(List (Bool×Yq1))):Option (Yq6×Bool):=
 (cn (a.1,a.2)).bind fun b=>aO (ah (eA a d) aU (0,b.1,b.2)) (fun r=>some r) (fun c=>some ((c.2.1,c.2.2),true))
def gF (a:(List Int)×(List Yq1)) (c:(List (Bool×Yq1))):Option (Yq6×Bool):=
 (bI (a.1,a.2)).bind fun f=>if f then (if decide ((c.length:Int)>6) then ((cn (a.1,a.2)).bind fun d=>some ((d.1,d.2),false)) else ((dU (a.1,a.2) c).bind fun b=>some ((b.1.1,b.1.2),b.2))) else ((cn (a.1,a.2)).bind fun e=>some ((e.1,e.2),false))
def bM (b:Int×List Yq7) (g:List Yq4):Option (C9×Bool):=
 (kB (b.1,b.2)).bind fun a=>(m_s_IsValidHistory (b.1,b.2)).bind fun h=>if h then ((aF (b.1,b.2)).bind fun i=>if i==999 then (some ((a.1,a.2),false)) else ((aS b.2 (i64.wrap ((b.2.length:Int) - 1))).bind fun e=>(gF (e.1,e.2) g).bind fun d=>if d.2 then ((bw 48 a.2 ([(d.1.1,d.1.2)])).bind fun c=>Option.bind ((if decide ((c.length:Int)>8) then ((chk (And ((0:Int)<=1) (1<=(c.length:Int)))).bind fun _=>some (i64.wrap (a.1+1),c.drop 1)) else (some (a.1,c)):Option C9)) (fun f=>some ((f.1,f.2),true))) else (some ((a.1,a.2),false)))) else (some ((a.1,a.2),false))
def bV (b:C9×Yq5×Yq8×ByteArray) (d:List Yq4):Option (PY×Bool):=
 (gE ((b.1.1,b.1.2),(b.2.1.1,b.2.1.2),b.2.2.1,b.2.2.2)).bind fun a=>(bh ((b.1.1,b.1.2),(b.2.1.1,b.2.1.2),b.2.2.1,b.2.2.2)).bind fun f=>if f then ((bM (b.1.1,b.1.2) d).bind fun c=>if c.2 then ((aF (c.1.1,c.1.2)).bind fun g=>(di g d).bind fun e=>if decide ((i64.wrap (((b.2.2.2.size:Nat):Int)+((e.size:Nat):Int)))>4000) then (some (((a.1.1,a.1.2),(a.2.1.1,a.2.1.2),a.2.2.1,a.2.2.2),false)) else ((jA b.2.2.2 e).bind fun h=>some (((c.1.1,c.1.2),(a.2.1.1,a.2.1.2),a.2.2.1,h),true))) else (some (((a.1.1,a.1.2),(a.2.1.1,a.2.1.2),a.2.2.1,a.2.2.2),false))) else (some (((a.1.1,a.1.2),(a.2.1.1,a.2.1.2),a.2.2.1,a.2.2.2),false))
def qo (b:List Int) (a:Int×Int):Option (Out (Int×Int) (Int×Int)):=
 if decide (a.2<(b.length:Int)) then (if decide (a.2<4000) then ((aS b a.2).bind fun c=>some (.nxt (rU (i64.wrap ((i64.wrap ((i64.wrap (a.1*131))+(i64.wrap c)))+7)) 1073741823,i64.wrap (a.2+1)))) else (some (.brk (a.1,a.2)))) else (some (.brk (a.1,a.2)))
def xS (a:List Int):Option (Int×Int):=
 aO (ah (qo a) aU (i64.wrap (10101+(a.length:Int)),0)) (fun b=>some b) (fun c=>some (0,c.1))
def jf (a:(List Int)×Int×Int):Option GK:=
 Option.bind ((if decide (a.2.1<(a.1.length:Int)) then ((aS a.1 a.2.1).bind fun c=>some (rU (i64.wrap ((rU (Y1 (qc (i64.wrap ((i64.wrap (a.2.2*6364136223846793005))+1442695040888963407)) 33) (qc (i64.wrap ((i64.wrap (a.2.2*6364136223846793005))+1442695040888963407)) 45)) 255)+(i64.wrap c))) 255,i64.wrap (a.2.1+1),i64.wrap ((i64.wrap (a.2.2*6364136223846793005))+1442695040888963407))) else (some (rU (Y1 (qc (i64.wrap ((i64.wrap (a.2.2*6364136223846793005))+1442695040888963407)) 33) (qc (i64.wrap ((i64.wrap (a.2.2*6364136223846793005))+1442695040888963407)) 45)) 255,a.2.1,i64.wrap ((i64.wrap (a.2.2*6364136223846793005))+1442695040888963407))):Option GK)) (fun b=>some (b.1,b.2.1,b.2.2))
def aK (a:(List Int)×Int×Int) (b:Int):Option GK:=
 if decide (b<=0) then (some (0,a.2.1,a.2.2)) else (if decide (b<=256) then ((jf (a.1,a.2.1,a.2.2)).bind fun c=>(chk (b≠0)).bind fun _=>some (Int.tmod c.1 b,c.2.1,c.2.2)) else ((jf (a.1,a.2.1,a.2.2)).bind fun d=>(jf (a.1,d.2.1,d.2.2)).bind fun e=>(jf (a.1,e.2.1,e.2.2)).bind fun f=>(jf (a.1,f.2.1,f.2.2)).bind fun g=>(chk (b≠0)).bind fun _=>some (Int.tmod (i64.wrap ((i64.wrap ((i64.wrap ((i64.wrap (d.1*16777216))+(i64.wrap (e.1*65536))))+(i64.wrap (f.1*256))))+g.1)) b,g.2.1,g.2.2)))
def bW (a:(List Int)×Int×Int) (c:List Int):Option GK:=
 (aK (a.1,a.2.1,a.2.2) (c.length:Int)).bind fun b=>(aS c b.1).bind fun d=>some (d,b.2.1,b.2.2)
def oE (b:(List Yq2)×Yq3) (c:Int) (a:Int):Option (Out (wM×Bool) Int):=
 if decide (a<(b.2.length:Int)) then ((aS b.2 a).bind fun d=>if decide (d.1<c) then (some (.nxt (i64.wrap (a+1)))) else (some (.brk a))) else (some (.brk a))
def ic (a:(List Yq2)×Yq3) (c:Int) (h:(List Yq1)):Option (wM×Bool):=
 (m_s_IsValidRegistry (a.1,a.2)).bind fun i=>if i then ((cD (a.1,a.2) c).bind fun j=>if decide (j≥0) then ((lI (a.1,a.2)).bind fun e=>some ((e.1,e.2),false)) else (aO (ah (oE a c) aU 0) (fun r=>some r) (fun b=>(chk (0<=b/\b<=(a.2.length:Int))).bind fun _=>(bw 40 ([] :List GJ) (a.2.take b.toNat)).bind fun k=>(bw 40 k ([(c,h,0)])).bind fun l=>(chk (0<=b/\b<=(a.2.length:Int))).bind fun _=>(bw 40 l (a.2.drop b.toNat)).bind fun m=>(cH m).bind fun d=>if d.2 then (some ((d.1.1,d.1.2),true)) else ((lI (a.1,a.2)).bind fun f=>some ((f.1,f.2),false))))) else ((lI (a.1,a.2)).bind fun g=>some ((g.1,g.2),false))
def gf (b:A8×wM×Yq8×ByteArray) (d:Int) (e:(List Yq1)):Option (RI×Bool):=
 (gE ((b.1.1,b.1.2),(b.2.1.1,b.2.1.2),b.2.2.1,b.2.2.2)).bind fun a=>(ic (b.2.1.1,b.2.1.2) d e).bind fun c=>(bh ((b.1.1,b.1.2),(b.2.1.1,b.2.1.2),b.2.2.1,b.2.2.2)).bind fun f=>if f then (if c.2 then (some (((a.1.1,a.1.2),(c.1.1,c.1.2),a.2.2.1,a.2.2.2),true)) else (some (((a.1.1,a.1.2),(a.2.1.1,a.2.1.2),a.2.2.1,a.2.2.2),false))) else (some (((a.1.1,a.1.2),(a.2.1.1,a.2.1.2),a.2.2.1,a.2.2.2),false))
def nG (b:List GK) (c:Int) (a:Int):Option (Out Int Int):=
 if decide (a<(b.length:Int)) then ((aS b a).bind fun d=>if d.1==c then (some (.ret a)) else (some (.nxt (i64.wrap (a+1))))) else (some (.brk a))
def pA (a:List GK) (b:Int):Option Int:=
 aO (ah (nG a b) aU 0) (fun r=>some r) (fun c=>some (-1))
def fL (b:A8×wM×Yq8×ByteArray) (c:Int) (a:Int):Option (Out (RI×Bool) Int):=
 if decide (a<(b.2.2.1.length:Int)) then ((aS b.2.2.1 a).bind fun d=>if decide (d.1<c) then (some (.nxt (i64.wrap (a+1)))) else (some (.brk a))) else (some (.brk a))
def fv (b:A8×wM×Yq8×ByteArray) (d:Int) (e:Int):Option (RI×Bool):=
 (gE ((b.1.1,b.1.2),(b.2.1.1,b.2.1.2),b.2.2.1,b.2.2.2)).bind fun a=>(bh ((b.1.1,b.1.2),(b.2.1.1,b.2.1.2),b.2.2.1,b.2.2.2)).bind fun f=>if f then ((cy d 1 99).bind fun g=>if g then ((pA b.2.2.1 d).bind fun h=>if decide (h≥0) then (some (((a.1.1,a.1.2),(a.2.1.1,a.2.1.2),a.2.2.1,a.2.2.2),false)) else ((cD (b.2.1.1,b.2.1.2) e).bind fun i=>if decide (i<0) then (some (((a.1.1,a.1.2),(a.2.1.1,a.2.1.2),a.2.2.1,a.2.2.2),false)) else (if (b.2.2.1.length:Int)==4 then (some (((a.1.1,a.1.2),(a.2.1.1,a.2.1.2),a.2.2.1,a.2.2.2),false)) else (aO (ah (fL b d) aU 0) (fun r=>some r) (fun c=>(chk (0<=c/\c<=(b.2.2.1.length:Int))).bind fun _=>(bw 24 ([] :List GK) (b.2.2.1.take c.toNat)).bind fun j=>(bw 24 j ([(d,e,0)])).bind fun k=>(chk (0<=c/\c<=(b.2.2.1.length:Int))).bind fun _=>(bw 24 k (b.2.2.1.drop c.toNat)).bind fun l=>some (((a.1.1,a.1.2),(a.2.1.1,a.2.1.2),l,a.2.2.2),true)))))) else (some (((a.1.1,a.1.2),(a.2.1.1,a.2.1.2),a.2.2.1,a.2.2.2),false))) else (some (((a.1.1,a.1.2),(a.2.1.1,a.2.1.2),a.2.2.1,a.2.2.2),false))
def cA (a:(List Int)×Int×Int) (c:Int):Option (Bool×Int×Int):=
 (aK (a.1,a.2.1,a.2.2) c).bind fun b=>some (b.1==0,b.2.1,b.2.2)
def rm (b:(List Int)×Int×Int) (k:(List Int)×List Yq1):Option (Yq1×Int×Int):=
 (aK (b.1,b.2.1,b.2.2) 40).bind fun e=>(aK (b.1,e.2.1,e.2.2) (Max.max 1 (k.1.length:Int))).bind fun c=>(aK (b.1,c.2.1,c.2.2) (Max.max 1 (k.1.length:Int))).bind fun f=>(aK (b.1,f.2.1,f.2.2) 3).bind fun g=>(aK (b.1,g.2.1,g.2.2) 16).bind fun a=>Option.bind ((if a.1==0 then ((bW (b.1,a.2.1,a.2.2) ([0,99,100])).bind fun h=>some (h.2.1,h.2.2,h.1,c.1,f.1,g.1)) else (if a.1==1 then ((bW (b.1,a.2.1,a.2.2) ([(-1),5])).bind fun i=>some (i.2.1,i.2.2,i64.wrap (1+e.1),c.1,i.1,g.1)) else (if a.1==2 then ((bW (b.1,a.2.1,a.2.2) ([(-1),3])).bind fun j=>some (j.2.1,j.2.2,i64.wrap (1+e.1),c.1,f.1,j.1)) else (some (a.2.1,a.2.2,i64.wrap (1+e.1),c.1,f.1,g.1)))):Option (Int×Int×Int×Int×Int×Int))) (fun d=>some ((d.2.2.1,d.2.2.2.1,d.2.2.2.2.1,d.2.2.2.2.2),d.1,d.2.1))
def jg (i:(List Int)×Int×Int) (a:Int×Int×Int×(List Int)×(List Yq1)×List Yq4):Option (Out ((List Yq4)×Int×Int) (Int×Int×Int×(List Int)×(List Yq1)×List Yq4)):=
 if decide (a.1>0) then (Option.bind (((rm (i.1,a.2.1,a.2.2.1) (a.2.2.2.1,a.2.2.2.2.1)).bind fun h=>if decide ((a.2.2.2.2.1.length:Int)>0) then ((cA (i.1,h.2.1,h.2.2) 2).bind fun j=>Option.bind ((if j.1 then ((aK (i.1,j.2.1,j.2.2) (a.2.2.2.2.1.length:Int)).bind fun y=>(aS a.2.2.2.2.1 y.1).bind fun x=>some (y.2.1,y.2.2,false,x.1,x.2.1,x.2.2.1,x.2.2.2)) else (some (j.2.1,j.2.2,true,h.1.1,h.1.2.1,h.1.2.2.1,h.1.2.2.2)):Option (Int×Int×Bool×Int×Int×Int×Int))) (fun b=>if decide ((a.2.2.2.2.2.length:Int)>0) then ((cA (i.1,b.1,b.2.1) 4).bind fun k=>Option.bind ((if k.1 then ((aS a.2.2.2.2.2 (i64.wrap ((a.2.2.2.2.2.length:Int) - 1))).bind fun l=>some (cond.match_1 (fun (H:Bool)=>Bool) l.1 (fun (I:Unit)=>false) (fun (J:Unit)=>true),l.2.1,l.2.2.1,l.2.2.2.1,l.2.2.2.2)) else (some (b.2.2.1,b.2.2.2.1,b.2.2.2.2.1,b.2.2.2.2.2.1,b.2.2.2.2.2.2)):Option Yq4)) (fun d=>(dU (a.2.2.2.1,a.2.2.2.2.1) ([(d.1,d.2.1,d.2.2.1,d.2.2.2.1,d.2.2.2.2)])).bind fun m=>if m.2 then ((bw 40 a.2.2.2.2.2 ([(d.1,d.2.1,d.2.2.1,d.2.2.2.1,d.2.2.2.2)])).bind fun z=>some (k.2.1,k.2.2,m.1.1,m.1.2,z)) else ((cA (i.1,k.2.1,k.2.2) 12).bind fun n=>if n.1 then ((bw 40 a.2.2.2.2.2 ([(d.1,d.2.1,d.2.2.1,d.2.2.2.1,d.2.2.2.2)])).bind fun A=>some (n.2.1,n.2.2,m.1.1,m.1.2,A)) else (some (n.2.1,n.2.2,a.2.2.2.1,a.2.2.2.2.1,a.2.2.2.2.2))))) else (Option.bind ((some (b.2.2.1,b.2.2.2.1,b.2.2.2.2.1,b.2.2.2.2.2.1,b.2.2.2.2.2.2):Option Yq4)) (fun e=>(dU (a.2.2.2.1,a.2.2.2.2.1) ([(e.1,e.2.1,e.2.2.1,e.2.2.2.1,e.2.2.2.2)])).bind fun o=>if o.2 then ((bw 40 a.2.2.2.2.2 ([(e.1,e.2.1,e.2.2.1,e.2.2.2.1,e.2.2.2.2)])).bind fun B=>some (b.1,b.2.1,o.1.1,o.1.2,B)) else ((cA (i.1,b.1,b.2.1) 12).bind fun p=>if p.1 then ((bw 40 a.2.2.2.2.2 ([(e.1,e.2.1,e.2.2.1,e.2.2.2.1,e.2.2.2.2)])).bind fun C=>some (p.2.1,p.2.2,o.1.1,o.1.2,C)) else (some (p.2.1,p.2.2,a.2.2.2.1,a.2.2.2.2.1,a.2.2.2.2.2))))))) else (Option.bind ((some (h.2.1,h.2.2,true,h.1.1,h.1.2.1,h.1.2.2.1,h.1.2.2.2):Option (Int×Int×Bool×Int×Int×Int×Int))) (fun c=>if decide ((a.2.2.2.2.2.length:Int)>0) then ((cA (i.1,c.1,c.2.1) 4).bind fun q=>Option.bind ((if q.1 then ((aS a.2.2.2.2.2 (i64.wrap ((a.2.2.2.2.2.length:Int) - 1))).bind fun r=>some (cond.match_1 (fun (K:Bool)=>Bool) r.1 (fun (L:Unit)=>false) (fun (M:Unit)=>true),r.2.1,r.2.2.1,r.2.2.2.1,r.2.2.2.2)) else (some (c.2.2.1,c.2.2.2.1,c.2.2.2.2.1,c.2.2.2.2.2.1,c.2.2.2.2.2.2)):Option Yq4)) (fun f=>(dU (a.2.2.2.1,a.2.2.2.2.1) ([(f.1,f.2.1,f.2.2.1,f.2.2.2.1,f.2.2.2.2)])).bind fun s=>if s.2 then ((bw 40 a.2.2.2.2.2 ([(f.1,f.2.1,f.2.2.1,f.2.2.2.1,f.2.2.2.2)])).bind fun D=>some (q.2.1,q.2.2,s.1.1,s.1.2,D)) else ((cA (i.1,q.2.1,q.2.2) 12).bind fun t=>if t.1 then ((bw 40 a.2.2.2.2.2 ([(f.1,f.2.1,f.2.2.1,f.2.2.2.1,f.2.2.2.2)])).bind fun E=>some (t.2.1,t.2.2,s.1.1,s.1.2,E)) else (some (t.2.1,t.2.2,a.2.2.2.1,a.2.2.2.2.1,a.2.2.2.2.2))))) else (Option.bind ((some (c.2.2.1,c.2.2.2.1,c.2.2.2.2.1,c.2.2.2.2.2.1,c.2.2.2.2.2.2):Option Yq4)) (fun g=>(dU (a.2.2.2.1,a.2.2.2.2.1) ([(g.1,g.2.1,g.2.2.1,g.2.2.2.1,g.2.2.2.2)])).bind fun u=>if u.2 then ((bw 40 a.2.2.2.2.2 ([(g.1,g.2.1,g.2.2.1,g.2.2.2.1,g.2.2.2.2)])).bind fun F=>some (c.1,c.2.1,u.1.1,u.1.2,F)) else ((cA (i.1,c.1,c.2.1) 12).bind fun v=>if v.1 then ((bw 40 a.2.2.2.2.2 ([(g.1,g.2.1,g.2.2.1,g.2.2.2.1,g.2.2.2.2)])).bind fun G=>some (v.2.1,v.2.2,u.1.1,u.1.2,G)) else (some (v.2.1,v.2.2,a.2.2.2.1,a.2.2.2.2.1,a.2.2.2.2.2))))))):Option (Int×Int×(List Int)×(List Yq1)×List Yq4))) (fun w=>some (.nxt (i64.wrap (a.1 - 1),w.1,w.2.1,w.2.2.1,w.2.2.2.1,w.2.2.2.2)))) else (some (.brk (a.1,a.2.1,a.2.2.1,a.2.2.2.1,a.2.2.2.2.1,a.2.2.2.2.2)))
def iK (a:(List Int)×Int×Int) (d:(List Int)×List Yq1) (f:Int):Option ((List Yq4)×Int×Int):=
 (cn (d.1,d.2)).bind fun e=>(aK (a.1,a.2.1,a.2.2) (i64.wrap (f+1))).bind fun b=>aO (ah (jg a) aU (b.1,b.2.1,b.2.2,e.1,e.2,([] :List Yq4))) (fun g=>some g) (fun c=>some (c.2.2.2.2.2,c.2.1,c.2.2.1))
def eB (c:(List Int)×Int×Int) (a:Int×Int×Int×(List Int)×List Yq1):Option (Out (Yq7×Int×Int) (Int×Int×Int×(List Int)×List Yq1)):=
 if decide (a.1>0) then ((aK (c.1,a.2.1,a.2.2.1) 3).bind fun b=>(bw 8 a.2.2.2.1 ([b.1])).bind fun d=>some (.nxt (i64.wrap (a.1 - 1),b.2.1,b.2.2,d,a.2.2.2.2))) else (some (.brk (a.1,a.2.1,a.2.2.1,a.2.2.2.1,a.2.2.2.2)))
def gG (b:(List Int)×Int×Int) (a:Int×Int×Int×Int×(List Int)×List Yq1):Option (Out (Yq7×Int×Int) (Int×Int×Int×Int×(List Int)×List Yq1)):=
 if decide (a.2.1>0) then ((aK (b.1,a.2.2.1,a.2.2.2.1) 3).bind fun c=>(aK (b.1,c.2.1,c.2.2) (a.2.2.2.2.1.length:Int)).bind fun d=>(aK (b.1,d.2.1,d.2.2) (a.2.2.2.2.1.length:Int)).bind fun e=>(bW (b.1,e.2.1,e.2.2) ([0,0,1,2])).bind fun f=>(bw 32 a.2.2.2.2.2 ([(i64.wrap ((i64.wrap (a.1+1))+c.1),d.1,e.1,f.1)])).bind fun g=>some (.nxt (i64.wrap ((i64.wrap (a.1+1))+c.1),i64.wrap (a.2.1 - 1),f.2.1,f.2.2,a.2.2.2.2.1,g))) else (some (.brk (a.1,a.2.1,a.2.2.1,a.2.2.2.1,a.2.2.2.2.1,a.2.2.2.2.2)))
def jP (a:(List Int)×Int×Int):Option (Yq7×Int×Int):=
 (bW (a.1,a.2.1,a.2.2) ([2,3,4,4,5])).bind fun d=>aO (ah (eB a) aU (d.1,d.2.1,d.2.2,([] :List Int),([] :List Yq1))) (fun g=>some g) (fun b=>(bW (a.1,b.2.1,b.2.2.1) ([4,8,11])).bind fun e=>(aK (a.1,e.2.1,e.2.2) e.1).bind fun f=>aO (ah (gG a) aU (0,f.1,f.2.1,f.2.2,b.2.2.2.1,b.2.2.2.2)) (fun h=>some h) (fun c=>some ((c.2.2.2.2.1,c.2.2.2.2.2),c.2.2.1,c.2.2.2.1)))
def gH (b:(List Int)×(List Yq1)) (c:Int):Option (A8×Bool):=
 (cn (b.1,b.2)).bind fun a=>(m_s_IsValidHistory (c,[(a.1,a.2)])).bind fun d=>if d then (some ((c,[(a.1,a.2)]),true)) else (some ((0,[]),false))
def oO (b:(List Int)×(List Yq1)):Option (RI×Bool):=
 (gH (b.1,b.2) 1).bind fun a=>if a.2 then (some (((a.1.1,a.1.2),([],[]),[],⟨#[]⟩),true)) else (some (((0,[]),([],[]),[],⟨#[]⟩),false))
def B2 (a:Int×Int×Int×Int):Option ByteArray:=
 if a.1==1 then (some (⟨#[33]⟩)) else (if a.1==2 then (some (⟨#[40,41]⟩)) else (if a.1==3 then ((fS a.2.1).bind fun b=>some b) else (if a.1==4 then (some (⟨#[46]⟩)) else (if a.1==5 then (some (⟨#[124]⟩)) else (if a.1==6 then (some (⟨#[42]⟩)) else ((cr a.2.2.1).bind fun c=>(jA (⟨#[123]⟩) c).bind fun d=>(jA d (⟨#[44]⟩)).bind fun e=>(cr a.2.2.2).bind fun f=>(jA e f).bind fun g=>(jA g (⟨#[125]⟩)).bind fun h=>some h))))))
def FK (b:ByteArray) (a:Int):Option (Out Yq1 Int):=
 if decide (a<=6) then (if a !=3 then ((B2 (a,0,0,0)).bind fun c=>if c==b then (some (.ret (a,0,0,0))) else (some (.nxt (i64.wrap (a+1))))) else (some (.nxt (i64.wrap (a+1))))) else (some (.brk a))
def D9 (a:ByteArray):Option Yq1:=
 aO (ah (FK a) aU 1) (fun c=>some c) (fun i=>(hZ a).bind fun b=>if b.2 then (some (3,b.1,0,0)) else (if ((a.size:Nat):Int)==5 then ((jB a 0).bind fun d=>if d==123 then ((jB a 2).bind fun e=>if e==44 then ((jB a 4).bind fun f=>if f==125 then ((jB a 1).bind fun g=>(jB a 3).bind fun h=>some (7,0,i64.wrap ((i64.wrap g) - 48),i64.wrap ((i64.wrap h) - 48))) else (some (0,0,0,0))) else (some (0,0,0,0))) else (some (0,0,0,0))) else (some (0,0,0,0))))
def AF (c:List ByteArray) (a:Int×(List Yq1)):Option (Out (((List Yq1))×Bool) (Int×(List Yq1))):=
 if decide (a.1<(c.length:Int)) then (if decide (a.1<=24) then ((aS c a.1).bind fun d=>(D9 d).bind fun b=>(bw 32 a.2 ([(b.1,b.2.1,b.2.2.1,b.2.2.2)])).bind fun e=>some (.nxt (i64.wrap (a.1+1),e))) else (some (.brk (a.1,a.2)))) else (some (.brk (a.1,a.2)))
def kC (b:ByteArray):Option (((List Yq1))×Bool):=
 (hY b 32).bind fun c=>aO (ah (AF c) aU (0,[])) (fun r=>some r) (fun a=>(jK a.2).bind fun d=>if d then (some (a.2,true)) else (some ([],false)))
def ve (a:(List Int)×Int×Int) (c:List ByteArray):Option (ByteArray×Int×Int):=
 (aK (a.1,a.2.1,a.2.2) (c.length:Int)).bind fun b=>(aS c b.1).bind fun d=>some (d,b.2.1,b.2.2)
def nf (a:(List Int)×Int×Int):Option ((List Yq1)×Int×Int):=
 (ve (a.1,a.2.1,a.2.2) ([⟨#[97]⟩,⟨#[97,32,98,32,46]⟩,⟨#[97,32,42]⟩,⟨#[97,32,98,32,124,32,42]⟩,⟨#[97,32,97,45,32,46]⟩,⟨#[97,32,42,32,98,32,46]⟩,⟨#[97,32,98,32,42,32,46,32,99,32,46]⟩,⟨#[97,32,97,32,124,32,42]⟩,⟨#[97,32,98,32,46,32,42]⟩,⟨#[48,32,97,32,46,32,42]⟩,⟨#[97,32,49,32,46,32,98,32,46]⟩,⟨#[97,32,123,48,44,50,125]⟩,⟨#[97,32,98,32,124,32,123,49,44,51,125]⟩,⟨#[40,41]⟩,⟨#[33]⟩,⟨#[97,45,32,42,32,97,32,46]⟩,⟨#[97,32,98,45,32,46,32,42,32,99,32,124]⟩,⟨#[97,32,42,32,97,32,42,32,46]⟩,⟨#[97,32,48,32,124,32,42,32,98,32,46]⟩,⟨#[97,32,97,32,46,32,42]⟩,⟨#[97,32,98,32,46,32,98,32,97,32,46,32,124,32,42]⟩])).bind fun b=>(kC b.1).bind fun c=>some (c.1,b.2.1,b.2.2)
def pB (a:Int×(List Yq6)) (b:(List Yq2)×Yq3) (c:Int×Int×Int):Option Bool:=
 (m_s_IsValidHistory (a.1,a.2)).bind fun d=>if d then ((m_s_IsValidRegistry (b.1,b.2)).bind fun e=>if e then ((cD (b.1,b.2) c.2.1).bind fun f=>if decide (f≥0) then (if decide (c.2.2≥0) then ((aF (a.1,a.2)).bind fun g=>some (decide (c.2.2<g))) else (some false)) else (some false)) else (some false)) else (some false)
def jQ (a:Int×(List Yq6)) (b:Int):Option (Yq6×Bool):=
 (m_s_IsValidHistory (a.1,a.2)).bind fun e=>if e then ((aF (a.1,a.2)).bind fun f=>(cy b a.1 f).bind fun g=>if g then ((aS a.2 (i64.wrap (b - a.1))).bind fun c=>(cn (c.1,c.2)).bind fun d=>some ((d.1,d.2),true)) else (some (([],[]),false))) else (some (([],[]),false))
def jo (a:(List Yq2)×Yq3) (e:Int):Option (Yq2×Bool):=
 (cD (a.1,a.2) e).bind fun d=>(m_s_IsValidRegistry (a.1,a.2)).bind fun f=>if f then (if decide (d<0) then (some ((0,[],[]),false)) else ((aS a.2 d).bind fun g=>(aS a.1 g.2.2).bind fun b=>(pz (b.1,b.2.1,b.2.2)).bind fun c=>some ((c.1,c.2.1,c.2.2),true))) else (some ((0,[],[]),false))
def jh (b:Int×(List Bool)×(List (List Int))) (c:Int) (a:Int):Option (Out Bool Int):=
 if decide (a<9) then ((aS b.2.2 c).bind fun d=>(aS d a).bind fun e=>(cy e (-1) (i64.wrap ((b.2.1.length:Int) - 1))).bind fun f=>if f then (some (.nxt (i64.wrap (a+1)))) else (some (.ret false))) else (some (.brk a))
def nH (b:Int×(List Bool)×(List (List Int))) (a:Int):Option (Out Bool Int):=
 if decide (a<(b.2.1.length:Int)) then ((aS b.2.2 a).bind fun c=>if (c.length:Int) !=9 then (some (.ret false)) else (aO (ah (jh b a) aU 0) (fun r=>some (.ret r)) (fun d=>some (.nxt (i64.wrap (a+1)))))) else (some (.brk a))
def pC (a:Int×(List Bool)×(List (List Int))):Option Bool:=
 (cy a.1 0 (i64.wrap ((a.2.1.length:Int) - 1))).bind fun b=>if b then (if (a.2.2.length:Int) !=(a.2.1.length:Int) then (some false) else (aO (ah (nH a) aU 0) (fun r=>some r) (fun c=>some true))) else (some false)
def gP (a:Int×(List Bool)×(List (List Int))):Option Bool:=
 if decide ((a.2.1.length:Int)<=12) then ((pC (a.1,a.2.1,a.2.2)).bind fun b=>some b) else (some false)
def sj (b:(List Int)×(List Yq1)) (a:Int×(List Bool)×(List (List Int))) (c:Int) (d:Int):Option Bool:=
 (bI (b.1,b.2)).bind fun e=>if e then ((gP (a.1,a.2.1,a.2.2)).bind fun f=>if f then ((cy c 0 (i64.wrap ((b.1.length:Int) - 1))).bind fun g=>if g then ((cy d 0 (i64.wrap ((a.2.1.length:Int) - 1))).bind fun h=>some h) else (some false)) else (some false)) else (some false)
def ig (b:Int×(List Bool)×(List (List Int))) (c:Int) (a:Int×Int):Option (Out Int (Int×Int)):=
 if decide (a.1≥0) then ((chk (0<=a.1)).bind fun _=>if (rU (qc a.2 a.1) 1)==0 then ((chk (0<=a.1)).bind fun _=>(aS b.2.2 a.1).bind fun d=>(aS d (i64.wrap (6+c))).bind fun e=>some (.nxt (e,orI a.2 (Dc 1 a.1)))) else (some (.brk (a.1,a.2)))) else (some (.brk (a.1,a.2)))
def dC (a:Int×(List Bool)×(List (List Int))) (b:Int) (c:Int):Option Int:=
 aO (ah (ig a c) aU (b,0)) (fun r=>some r) (fun d=>some d.2)
def mn (b:(List Int)×(List Yq1)) (c:Int) (a:(List (Int×Bool))×Int):Option (Out (List (Int×Bool)) ((List (Int×Bool))×Int)):=
 if decide (a.2<(b.2.length:Int)) then (Option.bind ((Option.bind (((aS b.2 a.2).bind fun e=>if e.2.1==c then ((aS b.2 a.2).bind fun f=>(bw 16 a.1 ([(f.1,false)])).bind fun g=>some g) else (some a.1):Option (List (Int×Bool)))) (fun d=>(aS b.2 a.2).bind fun h=>if h.2.2.1==c then ((aS b.2 a.2).bind fun i=>(bw 16 d ([(i.1,true)])).bind fun j=>some j) else (some d)):Option (List (Int×Bool)))) (fun k=>some (.nxt (k,i64.wrap (a.2+1))))) else (some (.brk (a.1,a.2)))
def rp (a:(List Int)×(List Yq1)) (b:Int):Option (List (Int×Bool)):=
 aO (ah (mn a b) aU (([] :List (Int×Bool)),0)) (fun r=>some r) (fun c=>some c.1)
def iL (a:Int×Int×Int×Int) (b:Bool):Option Int:=
 if b then (some (i64.wrap ((i64.wrap (2*a.2.2.2))+1))) else (some (i64.wrap (2*a.2.2.2)))
def pD (a:Int×Int×Int×Int) (b:Bool):Option Int:=
 if b then (some a.2.1) else (some a.2.2.1)
def jR (d:Int×(List Bool)×(List (List Int))) (e:Int) (f:List (Int×Bool)) (g:PZ×Int) (b:Int×Int×Int×Int) (a:Int×Int):Option (Out PZ (Int×Int)):=
 if decide (a.2<(d.2.1.length:Int)) then (Option.bind (((aS d.2.2 a.2).bind fun h=>(aS f g.2).bind fun i=>(iL (b.1,b.2.1,b.2.2.1,b.2.2.2) i.2).bind fun j=>(aS h j).bind fun c=>(chk (0<=a.2)).bind fun _=>if (rU (qc e a.2) 1)==1 then (if decide (c≥0) then ((chk (0<=c)).bind fun _=>some (orI a.1 (Dc 1 c))) else (some a.1)) else (some a.1):Option Int)) (fun k=>some (.nxt (k,i64.wrap (a.2+1))))) else (some (.brk (a.1,a.2)))
def jS (f:Int×(List Bool)×(List (List Int))) (c:List (Int×Bool)) (d:PZ×Int) (b:Int×Int×Int×Int) (g:Int×Int) (a:PZ×Int):Option (Out PZ (PZ×Int)):=
 if decide (a.2<(f.2.1.length:Int)) then (Option.bind (((chk (0<=a.2)).bind fun _=>if (rU (qc g.1 a.2) 1)==1 then ((aS c d.2).bind fun e=>(aS c d.2).bind fun h=>(pD (b.1,b.2.1,b.2.2.1,b.2.2.2) h.2).bind fun i=>(bw 32 a.1 ([((e.1,e.2),i,a.2)])).bind fun j=>some j) else (some a.1):Option PZ)) (fun k=>some (.nxt (k,i64.wrap (a.2+1))))) else (some (.brk (a.1,a.2)))
def jT (c:(List Int)×(List Yq1)) (d:Int×(List Bool)×(List (List Int))) (f:Int) (b:List (Int×Bool)) (a:PZ×Int):Option (Out PZ (PZ×Int)):=
 if decide (a.2<(b.length:Int)) then ((aS b a.2).bind fun g=>(cM (c.1,c.2) g.1).bind fun h=>(aS c.2 h).bind fun e=>aO (ah (jR d f b a e) aU (0,0)) (fun r=>some (.ret r)) (fun i=>aO (ah (jS d b a e i) aU (a.1,0)) (fun r=>some (.ret r)) (fun j=>some (.nxt (j.1,i64.wrap (a.2+1)))))) else (some (.brk (a.1,a.2)))
def nW (a:(List Int)×(List Yq1)) (b:Int×(List Bool)×(List (List Int))) (c:Int) (d:Int):Option PZ:=
 (aS a.1 c).bind fun e=>(dC (b.1,b.2.1,b.2.2) d e).bind fun f=>(rp (a.1,a.2) c).bind fun g=>aO (ah (jT a b f g) aU (([] :List ((Int×Bool)×Int×Int)),0)) (fun r=>some r) (fun h=>some h.1)
def jU (b:(List Int)×(List Yq1)) (c:Int×(List Bool)×(List (List Int))) (a:(List Int)×Int):Option XZ:=
 if decide (a.2<i64.wrap ((b.1.length:Int)*(c.2.1.length:Int))) then ((bw 8 a.1 ([-1])).bind fun d=>some (.nxt (d,i64.wrap (a.2+1)))) else (some (.brk (a.1,a.2)))
def jV (b:Int×(List Bool)×(List (List Int))) (g:(List Int)×(List Int)×Int) (e:List ((Int×Bool)×Int×Int)) (a:(List Int)×(List Int)×Int):Option (Out (List Int) ((List Int)×(List Int)×Int)):=
 if decide (a.2.2<(e.length:Int)) then (Option.bind (((aS e a.2.2).bind fun c=>(aS e a.2.2).bind fun d=>(aS a.1 (i64.wrap ((i64.wrap (c.2.1*(b.2.1.length:Int)))+d.2.2))).bind fun h=>if decide (h<0) then ((aS a.2.1 g.2.2).bind fun i=>(aS a.1 i).bind fun j=>(aS a.1 (i64.wrap ((i64.wrap (c.2.1*(b.2.1.length:Int)))+d.2.2))).bind fun l=>(bw 8 a.2.1 ([i64.wrap ((i64.wrap (c.2.1*(b.2.1.length:Int)))+d.2.2)])).bind fun k=>some (a.1.set (i64.wrap ((i64.wrap (c.2.1*(b.2.1.length:Int)))+d.2.2)).toNat (i64.wrap (j+1)),k)) else (some (a.1,a.2.1)):Option ((List Int)×(List Int)))) (fun f=>some (.nxt (f.1,f.2,i64.wrap (a.2.2+1))))) else (some (.brk (a.1,a.2.1,a.2.2)))
def jW (c:(List Int)×(List Yq1)) (b:Int×(List Bool)×(List (List Int))) (a:(List Int)×(List Int)×Int):Option (Out (List Int) ((List Int)×(List Int)×Int)):=
 if decide (a.2.2<(a.2.1.length:Int)) then ((aS a.2.1 a.2.2).bind fun e=>(chk ((b.2.1.length:Int)≠0)).bind fun _=>(aS a.2.1 a.2.2).bind fun f=>(chk ((b.2.1.length:Int)≠0)).bind fun _=>(nW (c.1,c.2) (b.1,b.2.1,b.2.2) (GH e (b.2.1.length:Int)) (Int.tmod f (b.2.1.length:Int))).bind fun g=>aO (ah (jV b a g) aU (a.1,a.2.1,0)) (fun r=>some (.ret r)) (fun d=>some (.nxt (d.1,d.2.1,i64.wrap (a.2.2+1))))) else (some (.brk (a.1,a.2.1,a.2.2)))
def nX (b:(List Int)×(List Yq1)) (a:Int×(List Bool)×(List (List Int))) (c:Int):Option (List Int):=
 aO (ah (jU b a) aU (([] :List Int),0)) (fun r=>some r) (fun d=>(aS ([i64.wrap ((i64.wrap (c*(a.2.1.length:Int)))+a.1)]) 0).bind fun e=>(aS d.1 e).bind fun g=>aO (ah (jW b a) aU (d.1.set e.toNat 0,[i64.wrap ((i64.wrap (c*(a.2.1.length:Int)))+a.1)],0)) (fun r=>some r) (fun f=>some f.1))
def ij (b:Int×(List Bool)×(List (List Int))) (c:Int) (a:Int):Option (Out Bool Int):=
 if decide (a<(b.2.1.length:Int)) then ((chk (0<=a)).bind fun _=>if (rU (qc c a) 1)==1 then ((aS b.2.1 a).bind fun d=>if d then (some (.ret true)) else (some (.nxt (i64.wrap (a+1))))) else (some (.nxt (i64.wrap (a+1))))) else (some (.brk a))
def kT (b:(List Int)×(List Yq1)) (a:Int×(List Bool)×(List (List Int))) (c:Int) (d:Int):Option Bool:=
 (aS b.1 c).bind fun e=>(dC (a.1,a.2.1,a.2.2) d e).bind fun f=>aO (ah (ij a f) aU 0) (fun r=>some r) (fun g=>some false)
def nY (b:Int) (a:(List Int)×Int):Option XZ:=
 if decide (a.2<30) then (Option.bind (((chk (0<=a.2)).bind fun _=>if (rU (qc b a.2) 1)==1 then ((bw 8 a.1 ([a.2])).bind fun c=>some c) else (some a.1):Option (List Int))) (fun d=>some (.nxt (d,i64.wrap (a.2+1))))) else (some (.brk (a.1,a.2)))
def xT (a:Int):Option (List Int):=
 aO (ah (nY a) aU (([] :List Int),0)) (fun r=>some r) (fun b=>some b.1)
def kU (c:(List Int)×(List Yq1)) (b:Int×(List Bool)×(List (List Int))) (d:List Int) (a:Int×Int):Option (Out (List Int) (Int×Int)):=
 if decide (a.2<(d.length:Int)) then (Option.bind (((aS d a.2).bind fun e=>if decide (e≥0) then ((chk ((b.2.1.length:Int)≠0)).bind fun _=>(chk ((b.2.1.length:Int)≠0)).bind fun _=>(kT (c.1,c.2) (b.1,b.2.1,b.2.2) (GH a.2 (b.2.1.length:Int)) (Int.tmod a.2 (b.2.1.length:Int))).bind fun f=>if f then ((chk ((b.2.1.length:Int)≠0)).bind fun _=>(chk (0<=GH a.2 (b.2.1.length:Int))).bind fun _=>some (orI a.1 (Dc 1 (GH a.2 (b.2.1.length:Int))))) else (some a.1)) else (some a.1):Option Int)) (fun g=>some (.nxt (g,i64.wrap (a.2+1))))) else (some (.brk (a.1,a.2)))
def sk (b:(List Int)×(List Yq1)) (a:Int×(List Bool)×(List (List Int))) (c:Int):Option (List Int):=
 (nX (b.1,b.2) (a.1,a.2.1,a.2.2) c).bind fun d=>aO (ah (kU b a d) aU (0,0)) (fun r=>some r) (fun e=>(xT e.1).bind fun f=>some f)
def ng (c:tC×Int) (b:List Int) (a:tC×Int):Option (Out tC (tC×Int)):=
 if decide (a.2<(b.length:Int)) then ((aS b a.2).bind fun d=>(bw 16 a.1 ([(c.2,d)])).bind fun e=>some (.nxt (e,i64.wrap (a.2+1)))) else (some (.brk (a.1,a.2)))
def dV (c:(List Int)×(List Yq1)) (b:Int×(List Bool)×(List (List Int))) (a:tC×Int):Option (Out tC (tC×Int)):=
 if decide (a.2<(c.1.length:Int)) then ((sj (c.1,c.2) (b.1,b.2.1,b.2.2) 0 0).bind fun d=>if d then ((sk (c.1,c.2) (b.1,b.2.1,b.2.2) a.2).bind fun e=>aO (ah (ng a e) aU (a.1,0)) (fun r=>some (.ret r)) (fun f=>some (.nxt (f.1,i64.wrap (a.2+1))))) else (some (.brk (a.1,a.2)))) else (some (.brk (a.1,a.2)))
def nI (a:(List Int)×(List Yq1)) (b:Int×(List Bool)×(List (List Int))):Option tC:=
 aO (ah (dV a b) aU (([] :List (Int×Int)),0)) (fun r=>some r) (fun c=>some c.1)
def dL (c:(List Yq2)×Yq3) (a:(List Int)×(List Yq1)) (d:Int):Option (tC×Bool):=
 (jo (c.1,c.2) d).bind fun b=>if b.2 then ((bI (a.1,a.2)).bind fun e=>if e then ((nI (a.1,a.2) (b.1.1,b.1.2.1,b.1.2.2)).bind fun f=>some (f,true)) else (some (([] :List (Int×Int)),false))) else (some (([] :List (Int×Int)),false))
def oP (b:List (Int×Int)) (c:Int×Int) (a:Int):Option (Out Bool Int):=
 if decide (a<(b.length:Int)) then ((aS b a).bind fun d=>if ((d.1==c.1)&&((d.2==c.2)&&true)) then (some (.ret true)) else (some (.nxt (i64.wrap (a+1))))) else (some (.brk a))
def vf (a:List (Int×Int)) (b:Int×Int):Option Bool:=
 aO (ah (oP a b) aU 0) (fun r=>some r) (fun c=>some false)
def so (a:Int×Int) (b:Int×Int):Option Bool:=
 if decide (a.1<b.1) then (some true) else (if a.1==b.1 then (some (decide (a.2<b.2))) else (some false))
def oQ (b:List (Int×Int)) (c:Int×Int) (a:Int):Option (Out tC Int):=
 if decide (a<(b.length:Int)) then ((aS b a).bind fun d=>(so (d.1,d.2) (c.1,c.2)).bind fun e=>if e then (some (.nxt (i64.wrap (a+1)))) else (some (.brk a))) else (some (.brk a))
def vh (a:List (Int×Int)) (c:Int×Int):Option tC:=
 aO (ah (oQ a c) aU 0) (fun e=>some e) (fun b=>if decide (b<(a.length:Int)) then ((aS a b).bind fun d=>if Bool.and.match_1 (fun (l:Bool)=>Bool) (d.1==c.1) (fun (m:Unit)=>false) (fun (n:Unit)=>Bool.and.match_1 (fun (o:Bool)=>Bool) (d.2==c.2) (fun (p:Unit)=>false) (fun (q:Unit)=>true)) then (some a) else ((chk (And (0<=b) (b<=(a.length:Int)))).bind fun _=>(bw 16 ([] :List (Int×Int)) ((a.take b.toNat).drop 0)).bind fun f=>(bw 16 f ([(c.1,c.2)])).bind fun g=>(chk (And (0<=b) (b<=(a.length:Int)))).bind fun _=>(bw 16 g ((a.take a.length).drop b.toNat)).bind fun h=>some h)) else ((chk (And (0<=b) (b<=(a.length:Int)))).bind fun _=>(bw 16 ([] :List (Int×Int)) ((a.take b.toNat).drop 0)).bind fun i=>(bw 16 i ([(c.1,c.2)])).bind fun j=>(chk (And (0<=b) (b<=(a.length:Int)))).bind fun _=>(bw 16 j ((a.take a.length).drop b.toNat)).bind fun k=>some k))
def gQ (b:List (Int×Int)) (e:List (Int×Int)) (a:tC×Int):Option (Out tC (tC×Int)):=
 if decide (a.2<(b.length:Int)) then (Option.bind (((aS b a.2).bind fun c=>(vf e (c.1,c.2)).bind fun f=>if f then (some a.1) else ((aS b a.2).bind fun d=>(vh a.1 (d.1,d.2)).bind fun g=>some g):Option tC)) (fun h=>some (.nxt (h,i64.wrap (a.2+1))))) else (some (.brk (a.1,a.2)))
def il (a:List (Int×Int)) (b:List (Int×Int)):Option tC:=
 aO (ah (gQ a b) aU (([] :List (Int×Int)),0)) (fun r=>some r) (fun c=>some c.1)
def lj (a:List (Int×Int)) (b:List (Int×Int)):Option (tC×tC):=
 (il b a).bind fun c=>(il a b).bind fun d=>some (c,d)
def kV (a:Int×(List Yq6)) (b:(List Yq2)×Yq3) (c:Int×Int×Int) (d:Int):Option (Int×Bool×(tC×tC)):=
 (jQ (a.1,a.2) d).bind fun e=>(dL (b.1,b.2) (e.1.1,e.1.2) c.2.1).bind fun f=>if decide (c.2.2<a.1) then (some (d,true,(f.1,[]))) else ((jQ (a.1,a.2) c.2.2).bind fun g=>(dL (b.1,b.2) (g.1.1,g.1.2) c.2.1).bind fun i=>(lj i.1 f.1).bind fun h=>some (d,false,(h.1,h.2)))
def mo (b:Int×List Yq7) (c:(List Yq9)×List IF) (a:Int×Int×Int):Option ((Int×Bool×tC×List (Int×Int))×GK×Bool):=
 (pB (b.1,b.2) (c.1,c.2) (a.1,a.2.1,a.2.2)).bind fun e=>if e then ((kV (b.1,b.2) (c.1,c.2) (a.1,a.2.1,a.2.2) (Max.max b.1 (i64.wrap (a.2.2+1)))).bind fun d=>some ((d.1,d.2.1,d.2.2.1,d.2.2.2),(a.1,a.2.1,Max.max b.1 (i64.wrap (a.2.2+1))),true)) else (some ((0,false,([] :List (Int×Int)),([] :List (Int×Int))),(a.1,a.2.1,a.2.2),false))
def kW (b:A8×wM×Yq8×ByteArray) (f:Int):Option (RI×(Int×Bool×(tC×tC))×Bool):=
 (gE ((b.1.1,b.1.2),(b.2.1.1,b.2.1.2),b.2.2.1,b.2.2.2)).bind fun a=>(pA b.2.2.1 f).bind fun d=>(bh ((b.1.1,b.1.2),(b.2.1.1,b.2.1.2),b.2.2.1,b.2.2.2)).bind fun g=>if g then (if decide (d<0) then (some (((a.1.1,a.1.2),(a.2.1.1,a.2.1.2),a.2.2.1,a.2.2.2),(0,false,([],[])),false)) else ((aS b.2.2.1 d).bind fun e=>(mo (b.1.1,b.1.2) (b.2.1.1,b.2.1.2) (e.1,e.2.1,e.2.2)).bind fun c=>if c.2.2 then ((aS a.2.2.1 d).bind fun h=>some (((a.1.1,a.1.2),(a.2.1.1,a.2.1.2),a.2.2.1.set d.toNat (c.2.1.1,c.2.1.2.1,c.2.1.2.2),a.2.2.2),(c.1.1,c.1.2.1,(c.1.2.2.1,c.1.2.2.2)),true)) else (some (((a.1.1,a.1.2),(a.2.1.1,a.2.1.2),a.2.2.1,a.2.2.2),(0,false,([],[])),false)))) else (some (((a.1.1,a.1.2),(a.2.1.1,a.2.1.2),a.2.2.1,a.2.2.2),(0,false,([],[])),false))
def gg (a:Int×List Yq7) (c:Int):Option (C9×Bool):=
 (kB (a.1,a.2)).bind fun b=>(m_s_IsValidHistory (a.1,a.2)).bind fun d=>if d then ((aF (a.1,a.2)).bind fun e=>(cy c a.1 e).bind fun f=>if f then ((chk (And (0<=(i64.wrap (c - a.1))) ((i64.wrap (c - a.1))<=(b.2.length:Int)))).bind fun _=>some ((c,b.2.drop ((i64.wrap (c - a.1)).toNat)),true)) else (some ((b.1,b.2),false))) else (some ((b.1,b.2),false))
def mq (d:Int) (b:(List Int)×(List (List Yq4))×Int) (a:ByteArray×Int×List (List Yq4)):Option (Out ByteArray (ByteArray×Int×List (List Yq4))):=
 if decide (a.2.1<(b.1.length:Int)) then (Option.bind (((aS b.1 a.2.1).bind fun e=>if decide (e>d) then ((aS b.1 a.2.1).bind fun f=>(aS a.2.2 a.2.1).bind fun g=>(di f g).bind fun h=>(jA a.1 h).bind fun i=>some (i,a.2.2)) else (some (a.1,a.2.2)):Option (ByteArray×List (List Yq4)))) (fun c=>some (.nxt (c.1,i64.wrap (a.2.1+1),c.2)))) else (some (.brk (a.1,a.2.1,a.2.2)))
def vi (b:ByteArray) (c:Int):Option ByteArray:=
 (m_s_ScanLog b).bind fun a=>aO (ah (mq c a) aU ((⟨#[]⟩:ByteArray),0,a.2.1)) (fun d=>some d) (fun e=>some e.1)
def im (a:A8×wM×Yq8×ByteArray) (d:Int):Option (RI×Bool):=
 (gE ((a.1.1,a.1.2),(a.2.1.1,a.2.1.2),a.2.2.1,a.2.2.2)).bind fun b=>(gg (a.1.1,a.1.2) d).bind fun c=>(bh ((a.1.1,a.1.2),(a.2.1.1,a.2.1.2),a.2.2.1,a.2.2.2)).bind fun e=>if e then (if c.2 then ((vi a.2.2.2 d).bind fun f=>some (((c.1.1,c.1.2),(b.2.1.1,b.2.1.2),b.2.2.1,f),true)) else (some (((b.1.1,b.1.2),(b.2.1.1,b.2.1.2),b.2.2.1,b.2.2.2),false))) else (some (((b.1.1,b.1.2),(b.2.1.1,b.2.1.2),b.2.2.1,b.2.2.2),false))
def fU (d:(List Int)×Int×Int) (a:Int×Int×Int×Int×(List Yq7)×(List Yq9)×(List IF)×Yq8×ByteArray):Option (Out (PY×Int×Int) acp):=
 if decide (a.1>0) then ((nf (d.1,a.2.1,a.2.2.1)).bind fun c=>(gf ((a.2.2.2.1,a.2.2.2.2.1),(a.2.2.2.2.2.1,a.2.2.2.2.2.2.1),a.2.2.2.2.2.2.2.1,a.2.2.2.2.2.2.2.2) a.1 c.1).bind fun b=>some (.nxt (i64.wrap (a.1 - 1),c.2.1,c.2.2,b.1.1.1,b.1.1.2,b.1.2.1.1,b.1.2.1.2,b.1.2.2.1,b.1.2.2.2))) else (some (.brk (a.1,a.2.1,a.2.2.1,a.2.2.2.1,a.2.2.2.2.1,a.2.2.2.2.2.1,a.2.2.2.2.2.2.1,a.2.2.2.2.2.2.2.1,a.2.2.2.2.2.2.2.2)))
def fV (d:(List Int)×Int×Int) (a:Int×Int×Int×Int×(List Yq7)×(List Yq9)×(List IF)×Yq8×ByteArray):Option (Out (PY×Int×Int) acp):=
 if decide (a.1>0) then (Option.bind (((aK (d.1,a.2.1,a.2.2.1) 6).bind fun b=>if b.1==0 then ((aK (d.1,b.2.1,b.2.2) 4).bind fun j=>(aK (d.1,j.2.1,j.2.2) 2).bind fun k=>(fv ((a.2.2.2.1,a.2.2.2.2.1),(a.2.2.2.2.2.1,a.2.2.2.2.2.2.1),a.2.2.2.2.2.2.2.1,a.2.2.2.2.2.2.2.2) (i64.wrap (1+j.1)) (i64.wrap (1+k.1))).bind fun e=>some (k.2.1,k.2.2,e.1.1.1,e.1.1.2,e.1.2.1.1,e.1.2.1.2,e.1.2.2.1,e.1.2.2.2)) else (if b.1==1 then ((aK (d.1,b.2.1,b.2.2) 4).bind fun l=>(kW ((a.2.2.2.1,a.2.2.2.2.1),(a.2.2.2.2.2.1,a.2.2.2.2.2.2.1),a.2.2.2.2.2.2.2.1,a.2.2.2.2.2.2.2.2) (i64.wrap (1+l.1))).bind fun f=>some (l.2.1,l.2.2,f.1.1.1,f.1.1.2,f.1.2.1.1,f.1.2.1.2,f.1.2.2.1,f.1.2.2.2)) else (if b.1==2 then ((cA (d.1,b.2.1,b.2.2) 3).bind fun i=>if i.1 then ((aF (a.2.2.2.1,a.2.2.2.2.1)).bind fun p=>(aK (d.1,i.2.1,i.2.2) 2).bind fun m=>(im ((a.2.2.2.1,a.2.2.2.2.1),(a.2.2.2.2.2.1,a.2.2.2.2.2.2.1),a.2.2.2.2.2.2.2.1,a.2.2.2.2.2.2.2.2) (i64.wrap (p - m.1))).bind fun g=>some (m.2.1,m.2.2,g.1.1.1,g.1.1.2,g.1.2.1.1,g.1.2.1.2,g.1.2.2.1,g.1.2.2.2)) else (some (i.2.1,i.2.2,a.2.2.2.1,a.2.2.2.2.1,a.2.2.2.2.2.1,a.2.2.2.2.2.2.1,a.2.2.2.2.2.2.2.1,a.2.2.2.2.2.2.2.2))) else ((aS a.2.2.2.2.1 (i64.wrap ((a.2.2.2.2.1.length:Int) - 1))).bind fun o=>(iK (d.1,b.2.1,b.2.2) (o.1,o.2) 3).bind fun n=>(bV ((a.2.2.2.1,a.2.2.2.2.1),(a.2.2.2.2.2.1,a.2.2.2.2.2.2.1),a.2.2.2.2.2.2.2.1,a.2.2.2.2.2.2.2.2) n.1).bind fun h=>some (n.2.1,n.2.2,h.1.1.1,h.1.1.2,h.1.2.1.1,h.1.2.1.2,h.1.2.2.1,h.1.2.2.2)))):Option acq)) (fun c=>some (.nxt (i64.wrap (a.1 - 1),c.1,c.2.1,c.2.2.1,c.2.2.2.1,c.2.2.2.2.1,c.2.2.2.2.2.1,c.2.2.2.2.2.2.1,c.2.2.2.2.2.2.2)))) else (some (.brk (a.1,a.2.1,a.2.2.1,a.2.2.2.1,a.2.2.2.2.1,a.2.2.2.2.2.1,a.2.2.2.2.2.2.1,a.2.2.2.2.2.2.2.1,a.2.2.2.2.2.2.2.2)))
def mr (c:(List Int)×Int×Int):Option (PY×Int×Int):=
 (jP (c.1,c.2.1,c.2.2)).bind fun e=>(oO (e.1.1,e.1.2)).bind fun d=>(aK (c.1,e.2.1,e.2.2) 2).bind fun f=>aO (ah (fU c) aU (i64.wrap (1+f.1),f.2.1,f.2.2,d.1.1.1,d.1.1.2,d.1.2.1.1,d.1.2.1.2,d.1.2.2.1,d.1.2.2.2)) (fun h=>some h) (fun a=>(aK (c.1,a.2.1,a.2.2.1) 10).bind fun g=>aO (ah (fV c) aU (g.1,g.2.1,g.2.2,a.2.2.2.1,a.2.2.2.2.1,a.2.2.2.2.2.1,a.2.2.2.2.2.2.1,a.2.2.2.2.2.2.2.1,a.2.2.2.2.2.2.2.2)) (fun i=>some i) (fun b=>some (((b.2.2.2.1,b.2.2.2.2.1),(b.2.2.2.2.2.1,b.2.2.2.2.2.2.1),b.2.2.2.2.2.2.2.1,b.2.2.2.2.2.2.2.2),b.2.1,b.2.2.1)))
def jq (d:(List Int)×Int×Int) (a:Int×Int×Int×(List Yq9)×List IF):Option (Out (Yq5×Int×Int) (Int×Int×Int×(List Yq9)×List IF)):=
 if decide (a.1>0) then ((aK (d.1,a.2.1,a.2.2.1) 6).bind fun b=>(nf (d.1,b.2.1,b.2.2)).bind fun c=>(ic (a.2.2.2.1,a.2.2.2.2) (i64.wrap (1+b.1)) c.1).bind fun e=>some (.nxt (i64.wrap (a.1 - 1),c.2.1,c.2.2,e.1.1,e.1.2))) else (some (.brk (a.1,a.2.1,a.2.2.1,a.2.2.2.1,a.2.2.2.2)))
def mu (a:(List Int)×Int×Int):Option (Yq5×Int×Int):=
 (aK (a.1,a.2.1,a.2.2) 3).bind fun c=>aO (ah (jq a) aU (i64.wrap (1+c.1),c.2.1,c.2.2,([] :List Yq9),([] :List IF))) (fun d=>some d) (fun b=>some ((b.2.2.2.1,b.2.2.2.2),b.2.1,b.2.2.1))
def vM (a:Int):Option (List Yq1):=
 some ([(3,a,0,0)])
def eR:Nat->((List Int)×Int×Int)->Int->Option ((List Yq1)×Int×Int)
 | 0,_,_=>none
 | n+1,p0,p1 =>
  if p1==0 then ((cA (p0.1,p0.2.1,p0.2.2) 12).bind fun b=>if b.1 then ((bW (p0.1,b.2.1,b.2.2) ([1,2])).bind fun d=>(rk d.1).bind fun m=>some (m,d.2.1,d.2.2)) else ((bW (p0.1,b.2.1,b.2.2) ([0,0,2,2,1,4,3,6,7])).bind fun e=>(vM e.1).bind fun o=>some (o,e.2.1,e.2.2))) else ((aK (p0.1,p0.2.1,p0.2.2) 6).bind fun a=>Option.bind ((if a.1==0 then (some (a.1==0)) else (some (a.1==1)):Option Bool)) (fun p=>if p then (((eR n) (p0.1,a.2.1,a.2.2) (i64.wrap (p1 - 1))).bind fun f=>((eR n) (p0.1,f.2.1,f.2.2) (i64.wrap (p1 - 1))).bind fun g=>(fm f.1 g.1 (4,0,0,0)).bind fun q=>some (q,g.2.1,g.2.2)) else (Option.bind ((if a.1==2 then (some (a.1==2)) else (some (a.1==3)):Option Bool)) (fun r=>if r then (((eR n) (p0.1,a.2.1,a.2.2) (i64.wrap (p1 - 1))).bind fun h=>((eR n) (p0.1,h.2.1,h.2.2) (i64.wrap (p1 - 1))).bind fun i=>(fm h.1 i.1 (5,0,0,0)).bind fun s=>some (s,i.2.1,i.2.2)) else (if a.1==4 then (((eR n) (p0.1,a.2.1,a.2.2) (i64.wrap (p1 - 1))).bind fun j=>(fm j.1 ([] :List Yq1) (6,0,0,0)).bind fun t=>some (t,j.2.1,j.2.2)) else ((aK (p0.1,a.2.1,a.2.2) 3).bind fun c=>((eR n) (p0.1,c.2.1,c.2.2) (i64.wrap (p1 - 1))).bind fun k=>(aK (p0.1,k.2.1,k.2.2) (i64.wrap ((i64.wrap (1+c.1))+1))).bind fun l=>(fm k.1 ([] :List Yq1) (7,0,l.1,i64.wrap (1+c.1))).bind fun u=>some (u,l.2.1,l.2.2)))))))
def vj (a:(List Int)×Int×Int):Option ((List Yq1)×Int×Int):=
 (cA (a.1,a.2.1,a.2.2) 2).bind fun b=>if b.1 then ((nf (a.1,b.2.1,b.2.2)).bind fun c=>some (c.1,c.2.1,c.2.2)) else ((aK (a.1,b.2.1,b.2.2) 3).bind fun d=>(eR fP (a.1,d.2.1,d.2.2) (i64.wrap (1+d.1))).bind fun e=>some (e.1,e.2.1,e.2.2))
def iV (e:(List Int)×Int×Int) (f:Int×Int×Int) (a:(List Int)×Int×Int×Int):Option (Out (Yq9×Int×Int) ((List Int)×Int×Int×Int)):=
 if decide (a.2.1<9) then ((cA (e.1,a.2.2.1,a.2.2.2) 3).bind fun b=>Option.bind ((if b.1 then (some ((-1),b.2.1,b.2.2)) else ((aK (e.1,b.2.1,b.2.2) (i64.wrap (1+f.1))).bind fun c=>some (c.1,c.2.1,c.2.2)):Option GK)) (fun d=>Option.bind ((if decide (a.2.1>3) then (some (-1)) else (some d.1):Option Int)) (fun g=>(bw 8 a.1 ([g])).bind fun h=>some (.nxt (h,i64.wrap (a.2.1+1),d.2.1,d.2.2))))) else (some (.brk (a.1,a.2.1,a.2.2.1,a.2.2.2)))
def ln (d:(List Int)×Int×Int) (e:Int×Int×Int) (a:Int×Int×(List Bool)×(List (List Int))×Int×Int):Option (Out (Yq9×Int×Int) (Int×Int×(List Bool)×(List (List Int))×Int×Int)):=
 if decide (a.1<(i64.wrap (1+e.1))) then (aO (ah (iV d e) aU (([] :List Int),0,a.2.2.2.2.1,a.2.2.2.2.2)) (fun f=>some (.ret f)) (fun b=>(cA (d.1,b.2.2.1,b.2.2.2) 3).bind fun c=>(bw 1 a.2.2.1 ([c.1])).bind fun g=>(bw 24 a.2.2.2.1 ([b.1])).bind fun h=>some (.nxt (i64.wrap (a.1+1),a.2.1,g,h,c.2.1,c.2.2)))) else (some (.brk (a.1,a.2.1,a.2.2.1,a.2.2.2.1,a.2.2.2.2.1,a.2.2.2.2.2)))
def mw (a:(List Int)×Int×Int):Option (Yq9×Int×Int):=
 (aK (a.1,a.2.1,a.2.2) 4).bind fun c=>(aK (a.1,c.2.1,c.2.2) (i64.wrap (1+c.1))).bind fun d=>aO (ah (ln a c) aU (0,d.1,([] :List Bool),([] :List (List Int)),d.2.1,d.2.2)) (fun e=>some e) (fun b=>some ((b.2.1,b.2.2.1,b.2.2.2.1),b.2.2.2.2.1,b.2.2.2.2.2))
def vk (a:(List Int)×Int×Int):Option (Yq9×Int×Int):=
 (cA (a.1,a.2.1,a.2.2) 3).bind fun b=>if b.1 then ((mw (a.1,b.2.1,b.2.2)).bind fun c=>some ((c.1.1,c.1.2.1,c.1.2.2),c.2.1,c.2.2)) else ((vj (a.1,b.2.1,b.2.2)).bind fun d=>(dE d.1).bind fun e=>(fj (e.1.1,e.1.2.1,e.1.2.2.1,e.1.2.2.2.1,e.1.2.2.2.2) 12).bind fun g=>if g.2 then (some ((g.1.1,g.1.2.1,g.1.2.2),d.2.1,d.2.2)) else ((mw (a.1,d.2.1,d.2.2)).bind fun f=>some ((f.1.1,f.1.2.1,f.1.2.2),f.2.1,f.2.2)))
def vl (c:(List Int)×Int×Int):Option (Yq5×Int×Int):=
 (mu (c.1,c.2.1,c.2.2)).bind fun a=>(aK (c.1,a.2.1,a.2.2) 16).bind fun b=>Option.bind ((if b.1==0 then (if decide ((a.1.2.length:Int)>0) then ((aK (c.1,b.2.1,b.2.2) 3).bind fun f=>(aS a.1.2 0).bind fun h=>some (f.2.1,f.2.2,a.1.1,a.1.2.set 0 (h.1,h.2.1,f.1))) else (some (b.2.1,b.2.2,a.1.1,a.1.2))) else (if b.1==1 then (if decide ((a.1.2.length:Int)>0) then ((bW (c.1,b.2.1,b.2.2) ([0,100,99])).bind fun g=>(aS a.1.2 0).bind fun i=>some (g.2.1,g.2.2,a.1.1,a.1.2.set 0 (g.1,i.2))) else (some (b.2.1,b.2.2,a.1.1,a.1.2))) else (if b.1==2 then ((vk (c.1,b.2.1,b.2.2)).bind fun d=>(bw 56 a.1.1 ([(d.1.1,d.1.2.1,d.1.2.2)])).bind fun j=>some (d.2.1,d.2.2,j,a.1.2)) else (some (b.2.1,b.2.2,a.1.1,a.1.2)))):Option (Int×Int×(List Yq9)×List IF))) (fun e=>some ((e.2.2.1,e.2.2.2),e.1,e.2.1))
def xU (c:(List Int)×Int×Int):Option (Yq7×Int×Int):=
 (jP (c.1,c.2.1,c.2.2)).bind fun b=>(aK (c.1,b.2.1,b.2.2) 14).bind fun a=>Option.bind ((if a.1==0 then ((bW (c.1,a.2.1,a.2.2) ([(-1),3,2])).bind fun e=>(aS b.1.1 0).bind fun k=>some (e.2.1,e.2.2,b.1.1.set 0 e.1,b.1.2)) else (if a.1==1 then ((bW (c.1,a.2.1,a.2.2) ([0,1,99,100])).bind fun f=>(aK (c.1,f.2.1,f.2.2) 6).bind fun g=>(aK (c.1,g.2.1,g.2.2) 6).bind fun h=>(aK (c.1,h.2.1,h.2.2) 4).bind fun i=>(bw 32 b.1.2 ([(f.1,g.1,h.1,i.1)])).bind fun j=>some (i.2.1,i.2.2,b.1.1,j)) else (if a.1==2 then (some (a.2.1,a.2.2,([] :List Int),b.1.2)) else (some (a.2.1,a.2.2,b.1.1,b.1.2)))):Option (Int×Int×(List Int)×List Yq1))) (fun d=>some ((d.2.2.1,d.2.2.2),d.1,d.2.1))
def fW (e:(List Int)×Int×Int) (a:Int×Int×Int×Int×List Yq7):Option (Out (C9×Int×Int) (Int×Int×Int×Int×List Yq7)):=
 if decide (a.1>0) then ((aS a.2.2.2.2 (i64.wrap ((a.2.2.2.2.length:Int) - 1))).bind fun c=>(iK (e.1,a.2.1,a.2.2.1) (c.1,c.2) 4).bind fun b=>(bM (a.2.2.2.1,a.2.2.2.2) b.1).bind fun d=>some (.nxt (i64.wrap (a.1 - 1),b.2.1,b.2.2,d.1.1,d.1.2))) else (some (.brk (a.1,a.2.1,a.2.2.1,a.2.2.2.1,a.2.2.2.2)))
def oR (a:(List Int)×Int×Int):Option (C9×Int×Int):=
 (jP (a.1,a.2.1,a.2.2)).bind fun b=>(aK (a.1,b.2.1,b.2.2) 4).bind fun d=>(gH (b.1.1,b.1.2) (i64.wrap (1+d.1))).bind fun g=>(bW (a.1,d.2.1,d.2.2) ([3,5,10])).bind fun e=>(aK (a.1,e.2.1,e.2.2) e.1).bind fun f=>aO (ah (fW a) aU (f.1,f.2.1,f.2.2,g.1.1,g.1.2)) (fun h=>some h) (fun c=>some ((c.2.2.2.1,c.2.2.2.2),c.2.1,c.2.2.1))
def xV (c:(List Int)×Int×Int):Option (C9×Int×Int):=
 (oR (c.1,c.2.1,c.2.2)).bind fun a=>(aK (c.1,a.2.1,a.2.2) 14).bind fun b=>Option.bind ((if b.1==0 then ((bW (c.1,b.2.1,b.2.2) ([0,999,998,1000])).bind fun f=>some (f.2.1,f.2.2,f.1,a.1.2)) else (if b.1==1 then ((xU (c.1,b.2.1,b.2.2)).bind fun d=>(aS a.1.2 (i64.wrap ((a.1.2.length:Int) - 1))).bind fun g=>some (d.2.1,d.2.2,a.1.1,a.1.2.set ((i64.wrap ((a.1.2.length:Int) - 1)).toNat) (d.1.1,d.1.2))) else (if b.1==2 then (some (b.2.1,b.2.2,a.1.1,([] :List Yq7))) else (some (b.2.1,b.2.2,a.1.1,a.1.2)))):Option (Int×Int×Int×List Yq7))) (fun e=>some ((e.2.2.1,e.2.2.2),e.1,e.2.1))
def rq (d:(List Int)×Int×Int):Option (PY×Int×Int):=
 (mr (d.1,d.2.1,d.2.2)).bind fun a=>(aK (d.1,a.2.1,a.2.2) 18).bind fun b=>Option.bind ((if b.1==0 then ((jA a.1.2.2.2 (⟨#[120]⟩)).bind fun i=>some (b.2.1,b.2.2,a.1.1.1,a.1.1.2,a.1.2.1.1,a.1.2.1.2,a.1.2.2.1,i)) else (if b.1==1 then (if decide ((a.1.2.2.1.length:Int)>0) then ((bW (d.1,b.2.1,b.2.2) ([(-1),0,50])).bind fun g=>(aS a.1.2.2.1 0).bind fun h=>some (g.2.1,g.2.2,a.1.1.1,a.1.1.2,a.1.2.1.1,a.1.2.1.2,a.1.2.2.1.set 0 (h.1,h.2.1,g.1),a.1.2.2.2)) else (some (b.2.1,b.2.2,a.1.1.1,a.1.1.2,a.1.2.1.1,a.1.2.1.2,a.1.2.2.1,a.1.2.2.2))) else (if b.1==2 then ((vl (d.1,b.2.1,b.2.2)).bind fun e=>some (e.2.1,e.2.2,a.1.1.1,a.1.1.2,e.1.1,e.1.2,a.1.2.2.1,a.1.2.2.2)) else (if b.1==3 then ((xV (d.1,b.2.1,b.2.2)).bind fun f=>some (f.2.1,f.2.2,f.1.1,f.1.2,a.1.2.1.1,a.1.2.1.2,a.1.2.2.1,a.1.2.2.2)) else (some (b.2.1,b.2.2,a.1.1.1,a.1.1.2,a.1.2.1.1,a.1.2.1.2,a.1.2.2.1,a.1.2.2.2))))):Option acq)) (fun c=>some (((c.2.2.1,c.2.2.2.1),(c.2.2.2.2.1,c.2.2.2.2.2.1),c.2.2.2.2.2.2.1,c.2.2.2.2.2.2.2),c.1,c.2.1))
def gR (a:A8×wM×Yq8×ByteArray):Option (RI×Bool):=
 (bh ((a.1.1,a.1.2),(a.2.1.1,a.2.1.2),a.2.2.1,a.2.2.2)).bind fun d=>if d then ((gE ((a.1.1,a.1.2),(a.2.1.1,a.2.1.2),a.2.2.1,a.2.2.2)).bind fun b=>(aF (a.1.1,a.1.2)).bind fun e=>(gg (a.1.1,a.1.2) e).bind fun c=>some (((c.1.1,c.1.2),(b.2.1.1,b.2.1.2),b.2.2.1,(⟨#[]⟩:ByteArray)),true)) else (some (((0,[]),([],[]),[],⟨#[]⟩),false))
def kD (e:(List Int)×Int×Int) (c:Int×Int×Int) (a:(List Int)×Int×Int×Int):Option (Out (ByteArray×Int×Int) ((List Int)×Int×Int×Int)):=
 if decide (a.2.1>0) then ((jf (e.1,a.2.2.1,a.2.2.2)).bind fun b=>Option.bind ((if c.1==1 then (some (Int.tmod b.1 2)) else (some b.1):Option Int)) (fun d=>Option.bind ((if c.1==2 then (some (i64.wrap (97+(Int.tmod d 4)))) else (some d):Option Int)) (fun f=>(bw 1 a.1 ([IntKind.u8.wrap f])).bind fun g=>some (.nxt (g,i64.wrap (a.2.1 - 1),b.2.1,b.2.2))))) else (some (.brk (a.1,a.2.1,a.2.2.1,a.2.2.2)))
def vm (a:(List Int)×Int×Int) (e:Int):Option (ByteArray×Int×Int):=
 (aK (a.1,a.2.1,a.2.2) 4).bind fun b=>(aK (a.1,b.2.1,b.2.2) (i64.wrap (e+1))).bind fun c=>aO (ah (kD a b) aU (([] :List Int),c.1,c.2.1,c.2.2)) (fun f=>some f) (fun d=>some (nR d.1,d.2.2.1,d.2.2.2))
def sp (d:(List Int)×Int×Int) (a:ByteArray):Option (ByteArray×Int×Int):=
 if ((a.size:Nat):Int)==0 then ((vm (d.1,d.2.1,d.2.2) 3).bind fun e=>some (e.1,e.2.1,e.2.2)) else ((aK (d.1,d.2.1,d.2.2) ((a.size:Nat):Int)).bind fun c=>(aK (d.1,c.2.1,c.2.2) 4).bind fun b=>if b.1==0 then ((lG a 0 c.1).bind fun h=>(lG a (i64.wrap (c.1+1)) ((a.size:Nat):Int)).bind fun i=>(jA h i).bind fun j=>some (j,b.2.1,b.2.2)) else (if b.1==1 then ((lG a 0 c.1).bind fun k=>(jf (d.1,b.2.1,b.2.2)).bind fun f=>(jA k (nR ([IntKind.u8.wrap f.1]))).bind fun l=>(lG a c.1 ((a.size:Nat):Int)).bind fun m=>(jA l m).bind fun n=>some (n,f.2.1,f.2.2)) else (if b.1==2 then ((lG a 0 c.1).bind fun o=>some (o,b.2.1,b.2.2)) else ((lG a 0 c.1).bind fun p=>(jB a c.1).bind fun q=>(aK (d.1,b.2.1,b.2.2) 255).bind fun g=>(jA p (nR ([IntKind.u8.wrap (Y1 (i64.wrap q) (i64.wrap (1+g.1)))]))).bind fun r=>(lG a (i64.wrap (c.1+1)) ((a.size:Nat):Int)).bind fun s=>(jA r s).bind fun t=>some (t,g.2.1,g.2.2)))))
def ji (e:List Int) (a:Int×Int×Int×Int×(List Yq7)×(List Yq9)×(List IF)×Yq8×ByteArray):Option (Out (PY×ByteArray) acp):=
 if decide (a.1>0) then ((aS a.2.2.2.2.1 (i64.wrap ((a.2.2.2.2.1.length:Int) - 1))).bind fun d=>(iK (e,a.2.1,a.2.2.1) (d.1,d.2) 3).bind fun c=>(bV ((a.2.2.2.1,a.2.2.2.2.1),(a.2.2.2.2.2.1,a.2.2.2.2.2.2.1),a.2.2.2.2.2.2.2.1,a.2.2.2.2.2.2.2.2) c.1).bind fun b=>some (.nxt (i64.wrap (a.1 - 1),c.2.1,c.2.2,b.1.1.1,b.1.1.2,b.1.2.1.1,b.1.2.1.2,b.1.2.2.1,b.1.2.2.2))) else (some (.brk (a.1,a.2.1,a.2.2.1,a.2.2.2.1,a.2.2.2.2.1,a.2.2.2.2.2.1,a.2.2.2.2.2.2.1,a.2.2.2.2.2.2.2.1,a.2.2.2.2.2.2.2.2)))
def wN (b:List Int):Option (PY×ByteArray):=
 (xS b).bind fun l=>(mr (b,l.1,l.2)).bind fun a=>(gR ((a.1.1.1,a.1.1.2),(a.1.2.1.1,a.1.2.1.2),a.1.2.2.1,a.1.2.2.2)).bind fun f=>(cA (b,a.2.1,a.2.2) 8).bind fun h=>Option.bind ((if h.1 then ((rq (b,h.2.1,h.2.2)).bind fun c=>some (c.2.1,c.2.2,c.1.1.1,c.1.1.2,c.1.2.1.1,c.1.2.1.2,c.1.2.2.1,c.1.2.2.2)) else (some (h.2.1,h.2.2,f.1.1.1,f.1.1.2,f.1.2.1.1,f.1.2.1.2,f.1.2.2.1,f.1.2.2.2)):Option acq)) (fun d=>(aK (b,d.1,d.2.1) 5).bind fun i=>aO (ah (ji b) aU (i.1,i.2.1,i.2.2,a.1.1.1,a.1.1.2,a.1.2.1.1,a.1.2.1.2,a.1.2.2.1,a.1.2.2.2)) (fun m=>some m) (fun g=>(aK (b,g.2.1,g.2.2.1) 4).bind fun e=>Option.bind ((if e.1==0 then ((aK (b,e.2.1,e.2.2) (i64.wrap (((g.2.2.2.2.2.2.2.2.size:Nat):Int)+1))).bind fun j=>(lG g.2.2.2.2.2.2.2.2 0 j.1).bind fun n=>some (n,j.2.1,j.2.2)) else (if e.1==1 then ((sp (b,e.2.1,e.2.2) g.2.2.2.2.2.2.2.2).bind fun k=>some (k.1,k.2.1,k.2.2)) else (some (g.2.2.2.2.2.2.2.2,e.2.1,e.2.2))):Option (ByteArray×Int×Int))) (fun o=>some (((d.2.2.1,d.2.2.2.1),(d.2.2.2.2.1,d.2.2.2.2.2.1),d.2.2.2.2.2.2.1,d.2.2.2.2.2.2.2),o.1))))
def gi (b:List Int):Option (RI×ByteArray):=
 (wN b).bind fun a=>some (((a.1.1.1,a.1.1.2),(a.1.2.1.1,a.1.2.1.2),a.1.2.2.1,a.1.2.2.2),a.2)
def cO (a:Int) (b:Int) (c:Int):Option Bool:=
 if decide (a≥b) then (some (decide (a<=c))) else (some false)
def jj (a:Int×Int×Int×Int) (b:Int):Option Bool:=
 (cO a.1 1 99).bind fun c=>if c then ((cO a.2.1 0 (i64.wrap (b - 1))).bind fun d=>if d then ((cO a.2.2.1 0 (i64.wrap (b - 1))).bind fun e=>if e then ((cO a.2.2.2 0 2).bind fun f=>some f) else (some false)) else (some false)) else (some false)
def fw (b:(List Int)×(List Yq1)) (a:Int):Option (Out Bool Int):=
 if decide (a<(b.1.length:Int)) then ((aS b.1 a).bind fun c=>(cO c 0 2).bind fun d=>if d then (some (.nxt (i64.wrap (a+1)))) else (some (.ret false))) else (some (.brk a))
def dW (c:(List Int)×(List Yq1)) (a:Int):Option (Out Bool Int):=
 if decide (a<(c.2.length:Int)) then ((aS c.2 a).bind fun b=>(jj (b.1,b.2.1,b.2.2.1,b.2.2.2) (c.1.length:Int)).bind fun d=>if d then (if decide (a>0) then ((aS c.2 (i64.wrap (a - 1))).bind fun e=>if decide (e.1≥b.1) then (some (.ret false)) else (some (.nxt (i64.wrap (a+1))))) else (some (.nxt (i64.wrap (a+1))))) else (some (.ret false))) else (some (.brk a))
def bR (a:(List Int)×(List Yq1)):Option Bool:=
 aO (ah (fw a) aU 0) (fun r=>some r) (fun c=>aO (ah (dW a) aU 0) (fun r=>some r) (fun d=>(cO (a.1.length:Int) 1 5).bind fun b=>if b then (some (decide ((a.2.length:Int)<=12))) else (some false)))
def dj (b:List Int) (c:List Int) (a:Int):Option (Out Bool Int):=
 if decide (a<(b.length:Int)) then ((aS b a).bind fun d=>(aS c a).bind fun e=>if d !=e then (some (.ret false)) else (some (.nxt (i64.wrap (a+1))))) else (some (.brk a))
def cq (a:List Int) (b:List Int):Option Bool:=
 if (a.length:Int) !=(b.length:Int) then (some false) else (aO (ah (dj a b) aU 0) (fun r=>some r) (fun c=>some true))
def gj (b:Int×(List Yq6)) (a:Int):Option (Out Bool Int):=
 if decide (a<(b.2.length:Int)) then ((aS b.2 a).bind fun c=>(bR (c.1,c.2)).bind fun d=>if d then ((aS b.2 0).bind fun e=>(cq c.1 e.1).bind fun f=>if f then (some (.nxt (i64.wrap (a+1)))) else (some (.ret false))) else (some (.ret false))) else (some (.brk a))
def m_i_IsValidHistory (a:Int×(List Yq6)):Option Bool:=
 (cO (a.2.length:Int) 1 8).bind fun b=>if b then ((cO a.1 1 (i64.wrap ((i64.wrap (999 - (a.2.length:Int)))+1))).bind fun c=>if c then (aO (ah (gj a) aU 0) (fun r=>some r) (fun d=>some true)) else (some false)) else (some false)
def bS (a:Int×(List Yq6)):Option Int:=
 (m_i_IsValidHistory (a.1,a.2)).bind fun b=>if b then (some (i64.wrap ((i64.wrap (a.1+(a.2.length:Int))) - 1))) else (some 0)
def aT (d:List Yq2) (e:List Yq2) (f:Yq2->Yq2->Option Bool) (a:Int):Option (Out Bool Int):=
 if decide (a<(d.length:Int)) then ((aS d a).bind fun b=>(aS e a).bind fun c=>(f (b.1,b.2.1,b.2.2) (c.1,c.2.1,c.2.2)).bind fun g=>if g then (some (.nxt (i64.wrap (a+1)))) else (some (.ret false))) else (some (.brk a))
def ba (a:List Yq2) (b:List Yq2) (c:Yq2->Yq2->Option Bool):Option Bool:=
 if (a.length:Int) !=(b.length:Int) then (some false) else (aO (ah (aT a b c) aU 0) (fun r=>some r) (fun d=>some true))
def cP (b:List Bool) (c:List Bool) (a:Int):Option (Out Bool Int):=
 if decide (a<(b.length:Int)) then ((aS b a).bind fun d=>(aS c a).bind fun e=>if d !=e then (some (.ret false)) else (some (.nxt (i64.wrap (a+1))))) else (some (.brk a))
def fc (a:List Bool) (b:List Bool):Option Bool:=
 if (a.length:Int) !=(b.length:Int) then (some false) else (aO (ah (cP a b) aU 0) (fun r=>some r) (fun c=>some true))
def bd (b:List (List Int)) (c:List (List Int)) (d:(List Int)->(List Int)->Option Bool) (a:Int):Option (Out Bool Int):=
 if decide (a<(b.length:Int)) then ((aS b a).bind fun e=>(aS c a).bind fun f=>(d e f).bind fun g=>if g then (some (.nxt (i64.wrap (a+1)))) else (some (.ret false))) else (some (.brk a))
def bX (a:List (List Int)) (b:List (List Int)) (c:(List Int)->(List Int)->Option Bool):Option Bool:=
 if (a.length:Int) !=(b.length:Int) then (some false) else (aO (ah (bd a b c) aU 0) (fun r=>some r) (fun d=>some true))
def iM (a:List Int) (b:List Int):Option Bool:=
 (cq a b).bind fun c=>some c
def fo (a:Int×(List Bool)×(List (List Int))) (b:Int×(List Bool)×(List (List Int))):Option Bool:=
 if a.1==b.1 then ((fc a.2.1 b.2.1).bind fun c=>if c then ((bX a.2.2 b.2.2 (fun a0 a1=>iM a0 a1)).bind fun d=>some d) else (some false)) else (some false)
def aQ (d:List GJ) (e:List GJ) (f:GJ->GJ->Option Bool) (a:Int):Option (Out Bool Int):=
 if decide (a<(d.length:Int)) then ((aS d a).bind fun b=>(aS e a).bind fun c=>(f (b.1,b.2.1,b.2.2) (c.1,c.2.1,c.2.2)).bind fun g=>if g then (some (.nxt (i64.wrap (a+1)))) else (some (.ret false))) else (some (.brk a))
def a7 (a:List GJ) (b:List GJ) (c:GJ->GJ->Option Bool):Option Bool:=
 if (a.length:Int) !=(b.length:Int) then (some false) else (aO (ah (aQ a b c) aU 0) (fun r=>some r) (fun d=>some true))
def cE (d:List Yq1) (e:List Yq1) (a:Int):Option (Out Bool Int):=
 if decide (a<(d.length:Int)) then ((aS d a).bind fun b=>(aS e a).bind fun c=>if (b.1==c.1)&&((b.2.1==c.2.1)&&((b.2.2.1==c.2.2.1)&&((b.2.2.2==c.2.2.2)&&true))) then (some (.nxt (i64.wrap (a+1)))) else (some (.ret false))) else (some (.brk a))
def eH (a:List Yq1) (b:List Yq1):Option Bool:=
 if (a.length:Int) !=(b.length:Int) then (some false) else (aO (ah (cE a b) aU 0) (fun r=>some r) (fun c=>some true))
def nJ (a:(List Yq1)) (b:(List Yq1)):Option Bool:=
 (eH a b).bind fun c=>some c
def iW (a:Int×((List Yq1))×Int) (b:Int×((List Yq1))×Int):Option Bool:=
 if a.1==b.1 then ((nJ a.2.1 b.2.1).bind fun c=>if c then (some (a.2.2==b.2.2)) else (some false)) else (some false)
def fx (a:(List Yq2)×Yq3) (b:(List Yq2)×Yq3):Option Bool:=
 (ba a.1 b.1 (fun a0 a1=>fo a0 a1)).bind fun c=>if c then ((a7 a.2 b.2 (fun a0 a1=>iW a0 a1)).bind fun d=>some d) else (some false)
def iD (a:(List Yq1)):Option (List Yq1):=
 (bw 32 ([] :List Yq1) a).bind fun b=>some b
def lR (a:Int):Option Bool:=
 (cO a 0 8).bind fun b=>some b
def su (a:Int×Int×Int×Int):Option Bool:=
 if a.1==3 then ((lR a.2.1).bind fun b=>if b then (if a.2.2.1==0 then (some (a.2.2.2==0)) else (some false)) else (some false)) else (if a.1==7 then (if a.2.1==0 then ((cO a.2.2.1 0 a.2.2.2).bind fun c=>if c then ((cO a.2.2.2 1 3).bind fun d=>some d) else (some false)) else (some false)) else (Option.bind ((if a.1==1 then (some (a.1==1)) else (if a.1==2 then (some (a.1==2)) else (if a.1==4 then (some (a.1==4)) else (if a.1==5 then (some (a.1==5)) else (some (a.1==6))))):Option Bool)) (fun e=>if e then (some ((a.1==a.1)&&((a.2.1==0)&&((a.2.2.1==0)&&((a.2.2.2==0)&&true))))) else (some false))))
def sw (d:List Yq1) (a:(List (Tr Yq1))×Int):Option (Out (Tr Yq1) ((List (Tr Yq1))×Int)):=
 if decide (a.2<(d.length:Int)) then ((aS d a.2).bind fun b=>Option.bind ((Option.bind ((if b.1==4 then (some (b.1==4)) else (some (b.1==5)):Option Bool)) (fun e=>if e then (some 2) else (Option.bind ((if b.1==6 then (some (b.1==6)) else (some (b.1==7)):Option Bool)) (fun f=>if f then (some 1) else (some 0)))):Option Int)) (fun c=>(su (b.1,b.2.1,b.2.2.1,b.2.2.2)).bind fun g=>if g then (if decide ((i64.wrap ((a.1.length:Int) - c))<0) then (some (.ret Tr.nil)) else ((chk (And (0<=(i64.wrap ((a.1.length:Int) - c))) ((i64.wrap ((a.1.length:Int) - c))<=(a.1.length:Int)))).bind fun _=>(bw 8 ([] :List (Tr Yq1)) (a.1.drop ((i64.wrap ((a.1.length:Int) - c)).toNat))).bind fun h=>(chk (And (0<=(i64.wrap ((a.1.length:Int) - c))) ((i64.wrap ((a.1.length:Int) - c))<=(a.1.length:Int)))).bind fun _=>(bw 8 (a.1.take ((i64.wrap ((a.1.length:Int) - c)).toNat)) ([Tr.node (b.1,b.2.1,b.2.2.1,b.2.2.2) h])).bind fun i=>some (.nxt (i,i64.wrap (a.2+1))))) else (some (.ret Tr.nil)))) else (some (.brk (a.1,a.2)))
def o9 (b:List Yq1):Option (Tr Yq1):=
 aO (ah (sw b) aU (([] :List (Tr Yq1)),0)) (fun c=>some c) (fun a=>if (a.1.length:Int) !=1 then (some Tr.nil) else ((aS a.1 0).bind fun d=>some d))
def vn (a:List Yq1):Option Bool:=
 (o9 a).bind fun b=>some (cond.match_1 (fun (c:Bool)=>Bool) (Tr.isNil b) (fun (d:Unit)=>false) (fun (e:Unit)=>true))
def my (a:(List Yq1)):Option Bool:=
 if decide ((a.length:Int)<=24) then ((vn a).bind fun b=>some b) else (some false)
def dX (mrec:(Tr Yq1)->Option Int) (b:Tr Yq1) (c:Yq1×List (Tr Yq1)) (a:Int×Int):Option (Out Int (Int×Int)):=
 if decide (a.2<(c.2.length:Int)) then (Option.bind (((aS c.2 a.2).bind fun d=>(Tr.get b).bind fun j=>(Tr.get b).bind fun e=>if e.1.1==7 then ((mrec d).bind fun f=>(Tr.get b).bind fun k=>(Tr.get b).bind fun g=>some (i64.wrap (a.1+(i64.wrap ((i64.wrap (f+3))*g.1.2.2.2))))) else ((mrec d).bind fun h=>some (i64.wrap (a.1+h))):Option Int)) (fun i=>some (.nxt (i,i64.wrap (a.2+1))))) else (some (.brk (a.1,a.2)))
def de:Nat->(Tr Yq1)->Option Int
 | 0,_=>none
 | n+1,p0x =>
  (Tr.get p0x).bind fun d=>(Tr.get p0x).bind fun a=>aO (ah (dX (de n) p0x a) aU (1,0)) (fun b=>some b) (fun c=>some (Min.min c.1 100000))
def FL (a:Int):Option (Tr Yq1):=
 some (Tr.node (a,0,0,0) ([] :List (Tr Yq1)))
def nZ:Nat->(Tr Yq1)->Int->Int->Option (Tr Yq1)
 | 0,_,_,_=>none
 | n+1,p0x,p1low,p2high =>
  if p2high==0 then ((FL 2).bind fun b=>some b) else (((nZ n) p0x (Max.max 0 (i64.wrap (p1low - 1))) (i64.wrap (p2high - 1))).bind fun a=>if decide (p1low>0) then (some (Tr.node (4,0,0,0) ([p0x,a]))) else ((FL 2).bind fun c=>some (Tr.node (5,0,0,0) ([Tr.node (4,0,0,0) ([p0x,a]),c]))))
def eS (mrec:(Tr Yq1)->Option (Tr Yq1)) (b:Yq1×List (Tr Yq1)) (a:Int×Int×Int×Int×Int×List (Tr Yq1)):Option (Out (Tr Yq1) (Int×Int×Int×Int×Int×List (Tr Yq1))):=
 if decide (a.1<(b.2.length:Int)) then ((aS b.2 a.1).bind fun c=>(mrec c).bind fun d=>(bw 8 a.2.2.2.2.2 ([d])).bind fun e=>some (.nxt (i64.wrap (a.1+1),a.2.1,a.2.2.1,a.2.2.2.1,a.2.2.2.2.1,e))) else (some (.brk (a.1,a.2.1,a.2.2.1,a.2.2.2.1,a.2.2.2.2.1,a.2.2.2.2.2)))
def cJ:Nat->(Tr Yq1)->Option (Tr Yq1)
 | 0,_=>none
 | n+1,p0x =>
  (Tr.get p0x).bind fun l=>(Tr.get p0x).bind fun c=>if c.1.1==7 then ((Tr.get p0x).bind fun m=>(Tr.get p0x).bind fun d=>(aS d.2 0).bind fun e=>((cJ n) e).bind fun f=>(Tr.get p0x).bind fun o=>(Tr.get p0x).bind fun g=>(Tr.get p0x).bind fun p=>(Tr.get p0x).bind fun h=>(nZ fP f g.1.2.2.1 h.1.2.2.2).bind fun i=>some i) else ((Tr.get p0x).bind fun q=>(Tr.get p0x).bind fun b=>(Tr.get p0x).bind fun r=>(Tr.get p0x).bind fun j=>aO (ah (eS (cJ n) j) aU (0,b.1.1,b.1.2.1,b.1.2.2.1,b.1.2.2.2,([] :List (Tr Yq1)))) (fun k=>some k) (fun a=>some (Tr.node (a.2.1,a.2.2.1,a.2.2.2.1,a.2.2.2.2.1) a.2.2.2.2.2)))
def dt (mrec:(Tr Yq1)->(List Yq1)->Option (List Yq1)) (b:Yq1×List (Tr Yq1)) (a:Int×List Yq1):Option (Out (List Yq1) (Int×List Yq1)):=
 if decide (a.1<(b.2.length:Int)) then ((aS b.2 a.1).bind fun c=>(mrec c a.2).bind fun d=>some (.nxt (i64.wrap (a.1+1),d))) else (some (.brk (a.1,a.2)))
def cx:Nat->(Tr Yq1)->(List Yq1)->Option (List Yq1)
 | 0,_,_=>none
 | n+1,p0x,p1out =>
  (Tr.get p0x).bind fun f=>(Tr.get p0x).bind fun b=>aO (ah (dt (cx n) b) aU (0,p1out)) (fun c=>some c) (fun d=>(Tr.get p0x).bind fun g=>(Tr.get p0x).bind fun a=>(bw 32 d.2 ([(a.1.1,a.1.2.1,a.1.2.2.1,a.1.2.2.2)])).bind fun e=>some e)
def sA (a:Tr Yq1):Option (List Yq1):=
 (cx fP a ([] :List Yq1)).bind fun b=>some b
def nK (a:List Yq1):Option ((List Yq1)×Bool):=
 (my a).bind fun d=>if d then ((o9 a).bind fun b=>(de fP b).bind fun e=>if decide (e>5000) then (some (([] :List Yq1),false)) else ((cJ fP b).bind fun f=>(sA f).bind fun c=>if decide ((c.length:Int)>400) then (some (([] :List Yq1),false)) else (some (c,true)))) else (some (([] :List Yq1),false))
def dG (b:(List Int)×Int×Int×(List Int)×Bool) (c:Int) (d:Int) (a:Int×List Int):Option (Out RH (Int×List Int)):=
 if decide (a.1<(b.2.2.2.1.length:Int)) then (Option.bind (((chk (0<=a.1)).bind fun _=>if (rU (qc c a.1) 1)==1 then ((aS a.2 a.1).bind fun e=>(aS a.2 a.1).bind fun g=>some (a.2.set a.1.toNat (orI e d))) else (some a.2):Option (List Int))) (fun f=>some (.nxt (i64.wrap (a.1+1),f)))) else (some (.brk (a.1,a.2)))
def eY (a:(List Int)×Int×Int×(List Int)×Bool) (b:Int) (c:Int):Option RH:=
 aO (ah (dG a b c) aU (0,a.2.2.2.1)) (fun d=>some d) (fun e=>some (a.1,a.2.1,a.2.2.1,e.2,a.2.2.2.2))
def bN:Nat->RH->(Tr Yq1)->Option ((Int×Int×Bool)×(List Int)×Int×Int×(List Int)×Bool)
 | 0,_,_=>none
 | n+1,p0,p1 =>
  (Tr.get p1).bind fun A=>(Tr.get p1).bind fun i=>if i.1.1==2 then (some ((0,0,true),p0.1,p0.2.1,p0.2.2.1,p0.2.2.2.1,p0.2.2.2.2)) else (if i.1.1==3 then ((Tr.get p1).bind fun B=>(Tr.get p1).bind fun m=>(bw 8 p0.1 ([m.1.2.1])).bind fun o=>(bw 8 p0.2.2.2.1 ([0])).bind fun p=>some ((Dc 1 (p0.1.length:Int),Dc 1 (p0.1.length:Int),false),o,p0.2.1,p0.2.2.1,p,p0.2.2.2.2)) else (if i.1.1==5 then ((Tr.get p1).bind fun C=>(Tr.get p1).bind fun q=>(aS q.2 0).bind fun r=>((bN n) (p0.1,p0.2.1,p0.2.2.1,p0.2.2.2.1,p0.2.2.2.2) r).bind fun f=>(Tr.get p1).bind fun D=>(Tr.get p1).bind fun s=>(aS s.2 1).bind fun t=>((bN n) f.2 t).bind fun b=>if f.1.2.2 then (some ((orI f.1.1 b.1.1,orI f.1.2.1 b.1.2.1,true),b.2.1,b.2.2.1,b.2.2.2.1,b.2.2.2.2.1,b.2.2.2.2.2)) else (some ((orI f.1.1 b.1.1,orI f.1.2.1 b.1.2.1,b.1.2.2),b.2.1,b.2.2.1,b.2.2.2.1,b.2.2.2.2.1,b.2.2.2.2.2))) else (if i.1.1==4 then ((Tr.get p1).bind fun E=>(Tr.get p1).bind fun u=>(aS u.2 0).bind fun v=>((bN n) (p0.1,p0.2.1,p0.2.2.1,p0.2.2.2.1,p0.2.2.2.2) v).bind fun c=>(Tr.get p1).bind fun F=>(Tr.get p1).bind fun w=>(aS w.2 1).bind fun x=>((bN n) c.2 x).bind fun a=>(eY (a.2.1,a.2.2.1,a.2.2.2.1,a.2.2.2.2.1,a.2.2.2.2.2) c.1.2.1 a.1.1).bind fun d=>if c.1.2.2 then (Option.bind ((if c.1.2.2 then (some (orI c.1.1 a.1.1,a.1.2.1,a.1.2.2)) else (some (c.1.1,a.1.2.1,a.1.2.2)):Option (Int×Int×Bool))) (fun g=>Option.bind ((if a.1.2.2 then (some (g.1,orI g.2.1 c.1.2.1,g.2.2)) else (some (g.1,g.2.1,g.2.2)):Option (Int×Int×Bool))) (fun k=>some ((k.1,k.2.1,k.2.2),d.1,d.2.1,d.2.2.1,d.2.2.2.1,d.2.2.2.2)))) else (Option.bind ((if c.1.2.2 then (some (orI c.1.1 a.1.1,a.1.2.1,false)) else (some (c.1.1,a.1.2.1,false)):Option (Int×Int×Bool))) (fun h=>Option.bind ((if a.1.2.2 then (some (h.1,orI h.2.1 c.1.2.1,h.2.2)) else (some (h.1,h.2.1,h.2.2)):Option (Int×Int×Bool))) (fun l=>some ((l.1,l.2.1,l.2.2),d.1,d.2.1,d.2.2.1,d.2.2.2.1,d.2.2.2.2))))) else (if i.1.1==6 then ((Tr.get p1).bind fun G=>(Tr.get p1).bind fun y=>(aS y.2 0).bind fun z=>((bN n) (p0.1,p0.2.1,p0.2.2.1,p0.2.2.2.1,p0.2.2.2.2) z).bind fun e=>(eY (e.2.1,e.2.2.1,e.2.2.2.1,e.2.2.2.2.1,e.2.2.2.2.2) e.1.2.1 e.1.1).bind fun j=>some ((e.1.1,e.1.2.1,true),j.1,j.2.1,j.2.2.1,j.2.2.2.1,j.2.2.2.2)) else (some ((0,0,false),p0.1,p0.2.1,p0.2.2.1,p0.2.2.2.1,p0.2.2.2.2))))))
def eI (b:(List Yq1)×Bool) (a:Int×Int):Option (Out (RH×Bool) (Int×Int)):=
 if decide (a.2<(b.1.length:Int)) then (Option.bind (((aS b.1 a.2).bind fun c=>if c.1==3 then (some (i64.wrap (a.1+1))) else (some a.1):Option Int)) (fun d=>some (.nxt (d,i64.wrap (a.2+1))))) else (some (.brk (a.1,a.2)))
def jr (c:List Yq1):Option (RH×Bool):=
 (nK c).bind fun b=>if b.2 then (aO (ah (eI b) aU (0,0)) (fun d=>some d) (fun e=>if decide (e.1>20) then (some ((([] :List Int),0,0,([] :List Int),false),false)) else ((o9 b.1).bind fun f=>(bN fP (([] :List Int),0,0,([] :List Int),false) f).bind fun a=>some ((a.2.1,a.1.1,a.1.2.1,a.2.2.2.2.1,a.1.2.2),true)))) else (some ((([] :List Int),0,0,([] :List Int),false),false))
def fy (e:Int->Int->Option (Int×Bool)) (f:(List Int)×tC×Int×Int×(List Bool)×(List (List Int))) (a:(List Int)×tC×(List Int)×Int):Option (Out (Yq2×Bool) ((List Int)×tC×(List Int)×Int)):=
 if decide (a.2.2.2<9) then (Option.bind (((aS a.1 f.2.2.1).bind fun g=>(e g a.2.2.2).bind fun b=>if b.2 then ((chk (iOk b.1=true)).bind fun _=>Option.bind ((if (lkM a.2.1 b.1).isSome then (some (a.1,a.2.1,(lkM a.2.1 b.1).getD 0)) else ((RB a.2.1 iOk iOk b.1 (a.1.length:Int)).bind fun m37=>(bw 8 a.1 ([b.1])).bind fun h=>some (h,m37,(a.1.length:Int))):Option ((List Int)×tC×Int))) (fun c=>(bw 8 a.2.2.1 ([c.2.2])).bind fun i=>some (c.1,c.2.1,i))) else ((bw 8 a.2.2.1 ([-1])).bind fun j=>some (a.1,a.2.1,j)):Option ((List Int)×tC×(List Int)))) (fun d=>some (.nxt (d.1,d.2.1,d.2.2,i64.wrap (a.2.2.2+1))))) else (some (.brk (a.1,a.2.1,a.2.2.1,a.2.2.2)))
def cK (c:Int) (d:Int->Option Bool) (e:Int->Int->Option (Int×Bool)) (a:(List Int)×tC×Int×Int×(List Bool)×(List (List Int))):Option (Out (Yq2×Bool) ((List Int)×tC×Int×Int×(List Bool)×(List (List Int)))):=
 if decide (a.2.2.1<(a.1.length:Int)) then (aO (ah (fy e a) aU (a.1,a.2.1,([] :List Int),0)) (fun r=>some (.ret r)) (fun b=>if decide ((b.1.length:Int)>c) then (some (.ret ((0,[],[]),false))) else ((aS b.1 a.2.2.1).bind fun f=>(d f).bind fun g=>(bw 1 a.2.2.2.2.1 ([g])).bind fun h=>(bw 24 a.2.2.2.2.2 ([b.2.2.1])).bind fun i=>some (.nxt (b.1,b.2.1,i64.wrap (a.2.2.1+1),a.2.2.2.1,h,i))))) else (some (.brk (a.1,a.2.1,a.2.2.1,a.2.2.2.1,a.2.2.2.2.1,a.2.2.2.2.2)))
def fX (b:Int) (c:Int) (d:Int->Option Bool) (e:Int->Int->Option (Int×Bool)):Option (Yq2×Bool):=
 (RB ([] :List (Int×Int)) iOk iOk b 0).bind fun m1=>aO (ah (cK c d e) aU ([b],m1,0,0,[],[])) (fun r=>some r) (fun a=>some ((a.2.2.2.1,a.2.2.2.2.1,a.2.2.2.2.2),true))
def eJ (a:(List Int)×Int×Int×(List Int)×Bool) (b:Int):Option Bool:=
 if (rU b 1)==1 then (if a.2.2.2.2 then (some true) else (some ((rU (qc b 1) a.2.2.1) !=0))) else (some ((rU (qc b 1) a.2.2.1) !=0))
def dP (b:(List Int)×Int×Int×(List Int)×Bool) (c:Int) (a:Int×Int):Option (Out Int (Int×Int)):=
 if decide (a.2<(b.2.2.2.1.length:Int)) then (Option.bind (((aS b.2.2.2.1 a.2).bind fun d=>(chk (0<=i64.wrap (a.2+1))).bind fun _=>if (rU (qc c (i64.wrap (a.2+1))) 1)==1 then (some (orI a.1 d)) else (some a.1):Option Int)) (fun e=>some (.nxt (e,i64.wrap (a.2+1))))) else (some (.brk (a.1,a.2)))
def dQ (b:(List Int)×Int×Int×(List Int)×Bool) (c:Int) (d:Int×Int) (a:Int×Int):Option (Out Int (Int×Int)):=
 if decide (a.2<(b.1.length:Int)) then (Option.bind (((aS b.1 a.2).bind fun e=>if e==c then ((chk (0<=a.2)).bind fun _=>if (rU (qc d.1 a.2) 1)==1 then ((chk (0<=i64.wrap (a.2+1))).bind fun _=>some (orI a.1 (Dc 1 (i64.wrap (a.2+1))))) else (some a.1)) else (some a.1):Option Int)) (fun f=>some (.nxt (f,i64.wrap (a.2+1))))) else (some (.brk (a.1,a.2)))
def iN (a:(List Int)×Int×Int×(List Int)×Bool) (b:Int) (c:Int):Option Int:=
 Option.bind ((if (rU b 1)==1 then (some a.2.1) else (some 0):Option Int)) (fun d=>aO (ah (dP a b) aU (d,0)) (fun r=>some r) (fun e=>aO (ah (dQ a c e) aU (0,0)) (fun r=>some r) (fun f=>some f.1)))
def dY (b:Int) (c:Int) (q0:(List Int)×Int×Int×(List Int)×Bool):Option (Int×Bool):=
 (iN (q0.1,q0.2.1,q0.2.2.1,q0.2.2.2.1,q0.2.2.2.2) b c).bind fun a=>some (a,a !=0)
def jX (a:(List Int)×Int×Int×(List Int)×Bool) (c:Int):Option (Yq2×Bool):=
 (fX 1 c (fun a0=>eJ (a.1,a.2.1,a.2.2.1,a.2.2.2.1,a.2.2.2.2) a0) (fun a0 a1=>dY a0 a1 (a.1,a.2.1,a.2.2.1,a.2.2.2.1,a.2.2.2.2))).bind fun b=>some ((b.1.1,b.1.2.1,b.1.2.2),b.2)
def eK (b:Bool×Int×List Bool) (c:List Int) (a:Bool×Int×List Bool):Option (Out (List Bool) (Bool×Int×List Bool)):=
 if decide (a.2.1<(c.length:Int)) then (Option.bind (((aS c a.2.1).bind fun d=>if decide (d≥0) then ((aS a.2.2 d).bind fun f=>if f then ((aS a.2.2 b.2.1).bind fun g=>if g then (some (a.1,a.2.2)) else ((aS a.2.2 b.2.1).bind fun h=>some (true,a.2.2.set b.2.1.toNat true))) else (some (a.1,a.2.2))) else (some (a.1,a.2.2)):Option (Bool×List Bool))) (fun e=>some (.nxt (e.1,i64.wrap (a.2.1+1),e.2)))) else (some (.brk (a.1,a.2.1,a.2.2)))
def eL (b:Int×(List Bool)×List (List Int)) (a:Bool×Int×List Bool):Option (Out (List Bool) (Bool×Int×List Bool)):=
 if decide (a.2.1<(b.2.2.length:Int)) then ((aS b.2.2 a.2.1).bind fun d=>aO (ah (eK a d) aU (a.1,0,a.2.2)) (fun e=>some (.ret e)) (fun c=>some (.nxt (c.1,i64.wrap (a.2.1+1),c.2.2)))) else (some (.brk (a.1,a.2.1,a.2.2)))
def jY (c:Int×(List Bool)×List (List Int)) (a:Bool×List Bool):Option (Out (List Bool) (Bool×List Bool)):=
 if a.1 then (aO (ah (eL c) aU (false,0,a.2)) (fun d=>some (.ret d)) (fun b=>some (.nxt (b.1,b.2.2)))) else (some (.brk (a.1,a.2)))
def gk (a:Int×(List Bool)×List (List Int)):Option (List Bool):=
 (bw 1 ([] :List Bool) a.2.1).bind fun b=>aO (ah (jY a) aU (true,b)) (fun c=>some c) (fun d=>some d.2)
def cY (b:List (List Int)) (c:(List Int)->Option Bool) (a:Int):Option (Out Int Int):=
 if decide (a<(b.length:Int)) then ((aS b a).bind fun d=>(c d).bind fun e=>if e then (some (.ret a)) else (some (.nxt (i64.wrap (a+1))))) else (some (.brk a))
def cz (a:List (List Int)) (b:(List Int)->Option Bool):Option Int:=
 aO (ah (cY a b) aU 0) (fun r=>some r) (fun c=>some (-1))
def jl (a:List Int) (q0:List Int):Option Bool:=
 (cq a q0).bind fun b=>some b
def dH (d:List Int) (c:List Int) (a:Int×(List Int)):Option (Out ((List Int)×Int) (Int×(List Int))):=
 if decide (a.1<(c.length:Int)) then ((aS c a.1).bind fun b=>Option.bind ((if decide (b≥0) then ((aS d b).bind fun e=>some e) else (some b):Option Int)) (fun f=>(bw 8 a.2 ([f])).bind fun g=>some (.nxt (i64.wrap (a.1+1),g)))) else (some (.brk (a.1,a.2)))
def fe (h:Int×(List Bool)×(List (List Int))) (b:List Int) (a:(List (List Int))×(List Int)×Int):Option (Out ((List Int)×Int) ((List (List Int))×(List Int)×Int)):=
 if decide (a.2.2<(b.length:Int)) then (Option.bind (((aS b a.2.2).bind fun c=>if decide (c<0) then ((bw 8 a.2.1 ([-1])).bind fun i=>some (a.1,i)) else ((aS h.2.2 a.2.2).bind fun j=>aO (ah (dH b j) aU (0,[c])) (fun _=>none) (fun d=>(cz a.1 (fun a0=>jl a0 d.2)).bind fun e=>Option.bind ((if decide (e<0) then ((bw 24 a.1 ([d.2])).bind fun k=>some (k,(a.1.length:Int))) else (some (a.1,e)):Option ((List (List Int))×Int))) (fun f=>(bw 8 a.2.1 ([f.2])).bind fun l=>some (f.1,l)))):Option ((List (List Int))×(List Int)))) (fun g=>some (.nxt (g.1,g.2,i64.wrap (a.2.2+1))))) else (some (.brk (a.1,a.2.1,a.2.2)))
def eZ (b:Int×(List Bool)×(List (List Int))) (c:List Int):Option ((List Int)×Int):=
 aO (ah (fe b c) aU (([] :List (List Int)),([] :List Int),0)) (fun r=>some r) (fun a=>some (a.2.1,(a.1.length:Int)))
def du (c:Int×(List Bool)×(List (List Int))) (b:List Bool) (a:(List Int)×Int):Option XZ:=
 if decide (a.2<(b.length:Int)) then (Option.bind (((aS b a.2).bind fun d=>if d then ((aS c.2.1 a.2).bind fun e=>if e then ((bw 8 a.1 ([1])).bind fun f=>some f) else ((bw 8 a.1 ([0])).bind fun g=>some g)) else ((bw 8 a.1 ([-1])).bind fun h=>some h):Option (List Int))) (fun i=>some (.nxt (i,i64.wrap (a.2+1))))) else (some (.brk (a.1,a.2)))
def ir (b:Int×(List Bool)×(List (List Int))) (c:(List Int)×Int):Option XZ:=
 (eZ (b.1,b.2.1,b.2.2) c.1).bind fun a=>if a.2==c.2 then (some (.ret a.1)) else (some (.nxt (a.1,a.2)))
def eM (a:Int×(List Bool)×(List (List Int))):Option (List Int):=
 (gk (a.1,a.2.1,a.2.2)).bind fun b=>aO (ah (du a b) aU (([] :List Int),0)) (fun r=>some r) (fun c=>aO (ah (ir a) aU (c.1,-1)) (fun r=>some r) (fun d=>none))
def wO (a:Int) (b:Int):Option (Int×Int):=
 some (IntKind.u32.wrap (qc (IntKind.u64.wrap ((IntKind.u64.wrap a)*(IntKind.u64.wrap b))) 32),IntKind.u32.wrap (IntKind.u64.wrap ((IntKind.u64.wrap a)*(IntKind.u64.wrap b))))
def pE (a:Int) (b:Int):Option (Int×Int):=
 some (IntKind.u64.wrap ((IntKind.u64.wrap ((IntKind.u64.wrap ((qc a 32)*(qc b 32)))+(qc (IntKind.u64.wrap ((IntKind.u64.wrap ((qc a 32)*(RC b 4294967295)))+(qc (IntKind.u64.wrap ((RC a 4294967295)*(RC b 4294967295))) 32))) 32)))+(qc (IntKind.u64.wrap ((RC (IntKind.u64.wrap ((IntKind.u64.wrap ((qc a 32)*(RC b 4294967295)))+(qc (IntKind.u64.wrap ((RC a 4294967295)*(RC b 4294967295))) 32))) 4294967295)+(IntKind.u64.wrap ((RC a 4294967295)*(qc b 32))))) 32)),IntKind.u64.wrap (a*b))
def rr (b:Int) (c:Int):Option (Int×Int):=
 (pE b c).bind fun a=>some (a.1,a.2)
def n7 (a:Int×List Int):Option (Out (List Int) (Int×List Int)):=
 if decide (a.1<(a.2.length:Int)) then ((chk (And (0<=a.1) (a.1<=(a.2.length:Int)))).bind fun _=>(chk (And (0<=a.1) (a.1<=(a.2.length:Int)))).bind fun _=>(chk (And (0<=a.1) (a.1<=(a.2.length:Int)))).bind fun _=>(chk (And (0<=a.1) (a.1<=(a.2.length:Int)))).bind fun _=>some (.nxt (i64.wrap (a.1+((Min.min ((a.2.take a.1.toNat).length) (a.2.length - a.1.toNat):Nat):Int)),GI a.2 a.1.toNat (a.2.take a.1.toNat)))) else (some (.brk (a.1,a.2)))
def jZ (a:List Int) (c:Int):Option (List Int):=
 if decide (c<0) then (none) else ((rr (IntKind.u64.wrap (a.length:Int)) (IntKind.u64.wrap c)).bind fun b=>if decide (b.1>0) then (none) else (if decide (b.2>9223372036854775807) then (none) else ((mkI 8 (i64.wrap b.2) 0).bind fun d=>aO (ah (n7) aU (((Min.min a.length (d.length - 0):Nat):Int),GI d 0 a)) (fun e=>some e) (fun f=>some f.2))))
def wP:Option Yq2:=
 (jZ ([-1]) 9).bind fun a=>some (0,[false],[a])
def eV (b:List Int) (c:Int) (a:Int):Option (Out Int Int):=
 if decide (a<(b.length:Int)) then ((aS b a).bind fun d=>if c==d then (some (.ret a)) else (some (.nxt (i64.wrap (a+1))))) else (some (.brk a))
def fQ (a:List Int) (b:Int):Option Int:=
 aO (ah (eV a b) aU 0) (fun r=>some r) (fun c=>some (-1))
def bf (a:Int) (q0:List Int):Option Int:=
 (fQ q0 a).bind fun b=>some b
def dw (a:Int) (q0:Int×(List Bool)×(List (List Int))) (q1:Int->Option Int):Option Bool:=
 (q1 a).bind fun b=>(aS q0.2.1 b).bind fun c=>some c
def gl (c:Int×(List Bool)×(List (List Int))) (a:Int) (b:Int):Option Int:=
 if decide (a<0) then (some (-1)) else ((lR b).bind fun d=>if d then ((aS c.2.2 a).bind fun e=>(aS e b).bind fun f=>some f) else (some (-1)))
def dx (b:Int) (c:Int) (q0:Int×(List Bool)×(List (List Int))) (q1:Int->Option Int) (q2:List Int):Option (Int×Bool):=
 (q1 b).bind fun d=>(gl (q0.1,q0.2.1,q0.2.2) d c).bind fun a=>if decide (a<0) then (some (0,false)) else ((aS q2 a).bind fun e=>if decide (e<0) then (some (0,false)) else ((aS q2 a).bind fun f=>some (f,true)))
def db (a:Int×(List Bool)×(List (List Int))):Option Yq2:=
 (eM (a.1,a.2.1,a.2.2)).bind fun b=>(aS b a.1).bind fun e=>if decide (e<0) then ((wP).bind fun c=>some (c.1,c.2.1,c.2.2)) else ((aS b a.1).bind fun f=>(fX f (b.length:Int) (fun a0=>dw a0 (a.1,a.2.1,a.2.2) (fun a0=>bf a0 b)) (fun a0 a1=>dx a0 a1 (a.1,a.2.1,a.2.2) (fun a0=>bf a0 b) b)).bind fun d=>some (d.1.1,d.1.2.1,d.1.2.2))
def B3 (b:Int×(List Bool)×(List (List Int))):Option (Yq2×Bool):=
 (db (b.1,b.2.1,b.2.2)).bind fun a=>if decide ((a.2.1.length:Int)>12) then (some ((0,[],[]),false)) else (some ((a.1,a.2.1,a.2.2),true))
def j3 (d:(List Yq1)):Option (Yq2×Bool):=
 (jr d).bind fun a=>if a.2 then ((jX (a.1.1,a.1.2.1,a.1.2.2.1,a.1.2.2.2.1,a.1.2.2.2.2) 200).bind fun b=>if b.2 then ((B3 (b.1.1,b.1.2.1,b.1.2.2)).bind fun c=>some ((c.1.1,c.1.2.1,c.1.2.2),c.2)) else (some ((0,[],[]),false))) else (some ((0,[],[]),false))
def cd (c:List Yq2) (d:Yq2->Option Bool) (a:Int):Option (Out Int Int):=
 if decide (a<(c.length:Int)) then ((aS c a).bind fun b=>(d (b.1,b.2.1,b.2.2)).bind fun e=>if e then (some (.ret a)) else (some (.nxt (i64.wrap (a+1))))) else (some (.brk a))
def bJ (a:List Yq2) (b:Yq2->Option Bool):Option Int:=
 aO (ah (cd a b) aU 0) (fun r=>some r) (fun c=>some (-1))
def n8 (a:Int×(List Bool)×(List (List Int))) (q0:Int×(List Bool)×(List (List Int))):Option Bool:=
 (fo (q0.1,q0.2.1,q0.2.2) (a.1,a.2.1,a.2.2)).bind fun b=>some b
def mz (d:List GJ) (a:Int×(List Yq2)×Yq3):Option (Out (wM×Bool) RJ):=
 if decide (a.1<(d.length:Int)) then ((aS d a.1).bind fun c=>(j3 c.2.1).bind fun b=>if b.2 then ((cO c.1 1 99).bind fun i=>if i then (if decide (a.1>0) then ((aS d (i64.wrap (a.1 - 1))).bind fun j=>if decide (j.1≥c.1) then (some (.ret (([],[]),false))) else ((bJ a.2.1 (fun a0=>n8 a0 (b.1.1,b.1.2.1,b.1.2.2))).bind fun g=>Option.bind ((if decide (g<0) then ((bw 56 a.2.1 ([(b.1.1,b.1.2.1,b.1.2.2)])).bind fun k=>some ((a.2.1.length:Int),k,a.2.2)) else (some (g,a.2.1,a.2.2)):Option RJ)) (fun e=>(iD c.2.1).bind fun l=>(bw 40 e.2.2 ([(c.1,l,e.1)])).bind fun m=>some (.nxt (i64.wrap (a.1+1),e.2.1,m))))) else ((bJ a.2.1 (fun a0=>n8 a0 (b.1.1,b.1.2.1,b.1.2.2))).bind fun h=>Option.bind ((if decide (h<0) then ((bw 56 a.2.1 ([(b.1.1,b.1.2.1,b.1.2.2)])).bind fun n=>some ((a.2.1.length:Int),n,a.2.2)) else (some (h,a.2.1,a.2.2)):Option RJ)) (fun f=>(iD c.2.1).bind fun o=>(bw 40 f.2.2 ([(c.1,o,f.1)])).bind fun p=>some (.nxt (i64.wrap (a.1+1),f.2.1,p))))) else (some (.ret (([],[]),false)))) else (some (.ret (([],[]),false)))) else (some (.brk (a.1,a.2.1,a.2.2)))
def vo (a:List GJ):Option (wM×Bool):=
 aO (ah (mz a) aU (0,[],[])) (fun r=>some r) (fun b=>some ((b.2.1,b.2.2),decide ((a.length:Int)<=4)))
def dZ (a:(List Yq2)×Yq3):Option Bool:=
 (vo a.2).bind fun b=>if b.2 then ((fx (b.1.1,b.1.2) (a.1,a.2)).bind fun c=>some c) else (some false)
def bm (c:List GJ) (d:GJ->Option Bool) (a:Int):Option (Out Int Int):=
 if decide (a<(c.length:Int)) then ((aS c a).bind fun b=>(d (b.1,b.2.1,b.2.2)).bind fun e=>if e then (some (.ret a)) else (some (.nxt (i64.wrap (a+1))))) else (some (.brk a))
def cm (a:List GJ) (b:GJ->Option Bool):Option Int:=
 aO (ah (bm a b) aU 0) (fun r=>some r) (fun c=>some (-1))
def mA (a:Int×((List Yq1))×Int) (q0:Int):Option Bool:=
 some (a.1==q0)
def mB (a:(List Yq2)×Yq3) (b:Int):Option Int:=
 (cm a.2 (fun a0=>mA a0 b)).bind fun c=>some c
def gm (a:ByteArray) (b:Int):Option Int:=R.zt a b
def oq (a:Int):Option (ByteArray):=R.TE a
def eC (a:Int):Option ByteArray:=
 (oq a).bind fun b=>some b
def kX (a:Int×Int×Int×Int):Option ByteArray:=
 (jj (a.1,a.2.1,a.2.2.1,a.2.2.2) 5).bind fun b=>if b then ((eC a.1).bind fun c=>(jA c (⟨#[58]⟩)).bind fun d=>(eC a.2.1).bind fun e=>(jA d e).bind fun f=>(lG (⟨#[97,98,99]⟩) a.2.2.2 (i64.wrap (a.2.2.2+1))).bind fun g=>(jA f g).bind fun h=>(eC a.2.2.1).bind fun i=>(jA h i).bind fun j=>some j) else (some ((⟨#[]⟩:ByteArray)))
def lq (a:List ByteArray) (b:ByteArray):Option (ByteArray):=R.TC a b
def gp (d:List Yq4) (a:(List ByteArray)×Int):Option (Out ByteArray ((List ByteArray)×Int)):=
 if decide (a.2<(d.length:Int)) then (fO (S:=List ByteArray) ((aS d a.2).bind fun b=>(kX (b.2.1,b.2.2.1,b.2.2.2.1,b.2.2.2.2)).bind fun c=>if c==((⟨#[]⟩:ByteArray)) then (some (.inl (.ret ((⟨#[]⟩:ByteArray))))) else (if b.1 then ((jA (⟨#[43]⟩) c).bind fun e=>(bw 16 a.1 ([e])).bind fun f=>some (.inr f)) else ((jA (⟨#[45]⟩) c).bind fun g=>(bw 16 a.1 ([g])).bind fun h=>some (.inr h)))) (fun i=>some (.nxt (i,i64.wrap (a.2+1))))) else (some (.brk (a.1,a.2)))
def fA (a:List Yq4):Option ByteArray:=
 if decide ((a.length:Int)>6) then (some ((⟨#[]⟩:ByteArray))) else (aO (ah (gp a) aU (([] :List ByteArray),0)) (fun b=>some b) (fun c=>(lq c.1 (⟨#[32]⟩)).bind fun d=>some d))
def pF (b:ByteArray) (a:Int×Int):Option (Out Int (Int×Int)):=
 if decide (a.2<((b.size:Nat):Int)) then ((jB b a.2).bind fun c=>some (.nxt (Int.tmod (i64.wrap ((i64.wrap ((i64.wrap (257*a.1))+(i64.wrap c)))+1)) 9973,i64.wrap (a.2+1)))) else (some (.brk (a.1,a.2)))
def lS (a:ByteArray):Option Int:=
 aO (ah (pF a) aU (1,0)) (fun b=>some b) (fun c=>some c.1)
def fY (a:Int) (c:List Yq4):Option ByteArray:=
 (fA c).bind fun b=>(cO a 1 999).bind fun f=>if f then (if b==((⟨#[]⟩:ByteArray)) then (if decide ((c.length:Int)>0) then (some ((⟨#[]⟩:ByteArray))) else ((eC a).bind fun g=>(jA g (⟨#[59]⟩)).bind fun h=>(jA h b).bind fun i=>(jA i (⟨#[59]⟩)).bind fun d=>(lS d).bind fun j=>(eC j).bind fun k=>(jA d k).bind fun l=>(jA l (⟨#[10]⟩)).bind fun m=>some m)) else ((eC a).bind fun n=>(jA n (⟨#[59]⟩)).bind fun o=>(jA o b).bind fun p=>(jA p (⟨#[59]⟩)).bind fun e=>(lS e).bind fun q=>(eC q).bind fun r=>(jA e r).bind fun s=>(jA s (⟨#[10]⟩)).bind fun t=>some t)) else (some ((⟨#[]⟩:ByteArray)))
def dy (p0 p1:ByteArray):Option (List ByteArray):=R.Lo p0 p1
def iE (a:ByteArray):Option (Int×Bool):=R.tX a
def dI (p0 p1:ByteArray):Option (ByteArray×ByteArray×Bool):=R.aac p0 p1
def iO (b:ByteArray):Option (Yq1×Bool):=
 (dI b (⟨#[58]⟩)).bind fun a=>if ((a.2.1.size:Nat):Int) !=3 then (some ((0,0,0,0),false)) else ((jB a.2.1 0).bind fun c=>(jB a.2.1 1).bind fun d=>(jB a.2.1 2).bind fun e=>(iE a.1).bind fun f=>(kX (f.1,i64.wrap ((i64.wrap c) - 48),i64.wrap ((i64.wrap e) - 48),i64.wrap ((i64.wrap d) - 97))).bind fun g=>if g !=b then (some ((0,0,0,0),false)) else (some ((f.1,i64.wrap ((i64.wrap c) - 48),i64.wrap ((i64.wrap e) - 48),i64.wrap ((i64.wrap d) - 97)),true)))
def ej (d:List ByteArray) (a:Int×List Yq4):Option (Out ((List Yq4)×Bool) (Int×List Yq4)):=
 if decide (a.1<(d.length:Int)) then ((aS d a.1).bind fun c=>if c==((⟨#[]⟩:ByteArray)) then (some (.ret (([] :List Yq4),false))) else ((lG c 1 ((c.size:Nat):Int)).bind fun e=>(iO e).bind fun b=>if b.2 then ((jB c 0).bind fun f=>(bw 40 a.2 ([(f==43,b.1.1,b.1.2.1,b.1.2.2.1,b.1.2.2.2)])).bind fun g=>some (.nxt (i64.wrap (a.1+1),g))) else (some (.ret (([] :List Yq4),false))))) else (some (.brk (a.1,a.2)))
def gI (a:ByteArray):Option ((List Yq4)×Bool):=
 if a==((⟨#[]⟩:ByteArray)) then (some (([] :List Yq4),true)) else ((dy a (⟨#[32]⟩)).bind fun c=>aO (ah (ej c) aU (0,([] :List Yq4))) (fun d=>some d) (fun b=>(fA b.2).bind fun e=>if e !=a then (some (([] :List Yq4),false)) else (some (b.2,true))))
def lr (d:ByteArray):Option (Int×(List Yq4)×Bool):=
 (dy d (⟨#[59]⟩)).bind fun a=>if (a.length:Int) !=3 then (some (0,([] :List Yq4),false)) else ((aS a 0).bind fun e=>(iE e).bind fun b=>(aS a 1).bind fun f=>(gI f).bind fun c=>if b.2 then (if c.2 then ((fY b.1 c.1).bind fun g=>if g !=d then (some (0,([] :List Yq4),false)) else (some (b.1,c.1,true))) else (some (0,([] :List Yq4),false))) else (some (0,([] :List Yq4),false)))
def df (c:ByteArray) (a:(List Int)×(List (List Yq4))×Int):Option (Out ((List Int)×(List (List Yq4))×Int) ((List Int)×(List (List Yq4))×Int)):=
 if decide (((c.size:Nat):Int)<=4000) then ((lG c a.2.2 ((c.size:Nat):Int)).bind fun e=>(gm e 10).bind fun d=>if decide (d<0) then (some (.brk (a.1,a.2.1,a.2.2))) else ((lG c a.2.2 (i64.wrap ((i64.wrap (a.2.2+d))+1))).bind fun f=>(lr f).bind fun b=>if b.2.2 then (if decide ((a.1.length:Int)>0) then ((aS a.1 (i64.wrap ((a.1.length:Int) - 1))).bind fun g=>if b.1 !=(i64.wrap (g+1)) then (some (.brk (a.1,a.2.1,a.2.2))) else ((bw 8 a.1 ([b.1])).bind fun h=>(bw 24 a.2.1 ([b.2.1])).bind fun i=>some (.nxt (h,i,i64.wrap (a.2.2+(i64.wrap (d+1))))))) else ((bw 8 a.1 ([b.1])).bind fun j=>(bw 24 a.2.1 ([b.2.1])).bind fun k=>some (.nxt (j,k,i64.wrap (a.2.2+(i64.wrap (d+1))))))) else (some (.brk (a.1,a.2.1,a.2.2))))) else (some (.brk (a.1,a.2.1,a.2.2)))
def m_i_ScanLog (b:ByteArray):Option ((List Int)×(List (List Yq4))×Int):=
 aO (ah (df b) aU (([] :List Int),([] :List (List Yq4)),0)) (fun c=>some c) (fun a=>some (a.1,a.2.1,a.2.2))
def cZ (a:A8×wM×Yq8×ByteArray) (d:Int) (b:Int):Option (Out Bool Int):=
 if decide (b<(a.2.2.1.length:Int)) then ((aS a.2.2.1 b).bind fun c=>(cO c.1 1 99).bind fun e=>if e then (if decide (b>0) then ((aS a.2.2.1 (i64.wrap (b - 1))).bind fun f=>if decide (f.1≥c.1) then (some (.ret false)) else ((mB (a.2.1.1,a.2.1.2) c.2.1).bind fun g=>if decide (g<0) then (some (.ret false)) else ((cO c.2.2 0 d).bind fun h=>if h then (some (.nxt (i64.wrap (b+1)))) else (some (.ret false))))) else ((mB (a.2.1.1,a.2.1.2) c.2.1).bind fun i=>if decide (i<0) then (some (.ret false)) else ((cO c.2.2 0 d).bind fun j=>if j then (some (.nxt (i64.wrap (b+1)))) else (some (.ret false))))) else (some (.ret false))) else (some (.brk b))
def cQ (a:A8×wM×Yq8×ByteArray):Option Bool:=
 (m_i_IsValidHistory (a.1.1,a.1.2)).bind fun d=>if d then ((dZ (a.2.1.1,a.2.1.2)).bind fun e=>if e then (if decide ((a.2.2.1.length:Int)>4) then (some false) else (if decide ((a.2.2.2.size:Int)>4000) then (some false) else ((bS (a.1.1,a.1.2)).bind fun c=>aO (ah (cZ a c) aU 0) (fun r=>some r) (fun g=>(m_i_ScanLog a.2.2.2).bind fun b=>if b.2.2==(a.2.2.2.size:Int) then (if (b.1.length:Int)==0 then (some true) else ((aS b.1 (i64.wrap ((b.1.length:Int) - 1))).bind fun f=>some (f==c))) else (some false))))) else (some false)) else (some false)
def n9 (a:List Int):Option (List Int):=
 (bw 8 ([] :List Int) a).bind fun b=>some b
def ff (a:(List Int)×(List Yq1)):Option Yq6:=
 (n9 a.1).bind fun b=>(bw 32 ([] :List Yq1) a.2).bind fun c=>some (b,c)
def gq (b:Int×(List Yq6)) (a:Int×Int×(List Yq6)):Option (Out A8 (Int×Int×(List Yq6))):=
 if decide (a.1<(b.2.length:Int)) then ((aS b.2 a.1).bind fun c=>(ff (c.1,c.2)).bind fun d=>(bw 48 a.2.2 ([(d.1,d.2)])).bind fun e=>some (.nxt (i64.wrap (a.1+1),a.2.1,e))) else (some (.brk (a.1,a.2.1,a.2.2)))
def j4 (a:Int×(List Yq6)):Option A8:=
 aO (ah (gq a) aU (0,a.1,[])) (fun r=>some r) (fun b=>some (b.2.1,b.2.2))
def fa (b:Int×(List Bool)×(List (List Int))) (a:Int×Int×(List Bool)×(List (List Int))):Option (Out Yq2 (Int×Int×(List Bool)×(List (List Int)))):=
 if decide (a.1<(b.2.2.length:Int)) then ((aS b.2.2 a.1).bind fun c=>(n9 c).bind fun d=>(bw 24 a.2.2.2 ([d])).bind fun e=>some (.nxt (i64.wrap (a.1+1),a.2.1,a.2.2.1,e))) else (some (.brk (a.1,a.2.1,a.2.2.1,a.2.2.2)))
def kE (a:Int×(List Bool)×(List (List Int))):Option Yq2:=
 (bw 1 ([] :List Bool) a.2.1).bind fun c=>aO (ah (fa a) aU (0,a.1,c,[])) (fun r=>some r) (fun b=>some (b.2.1,b.2.2.1,b.2.2.2))
def fB (d:(List Yq2)×Yq3) (a:Int×(List Yq2)×Yq3):Option (Out wM RJ):=
 if decide (a.1<(d.1.length:Int)) then ((aS d.1 a.1).bind fun b=>(kE (b.1,b.2.1,b.2.2)).bind fun c=>(bw 56 a.2.1 ([(c.1,c.2.1,c.2.2)])).bind fun e=>some (.nxt (i64.wrap (a.1+1),e,a.2.2))) else (some (.brk (a.1,a.2.1,a.2.2)))
def fC (c:(List Yq2)×Yq3) (a:Int×(List Yq2)×Yq3):Option (Out wM RJ):=
 if decide (a.1<(c.2.length:Int)) then ((aS c.2 a.1).bind fun b=>(iD b.2.1).bind fun d=>(bw 40 a.2.2 ([(b.1,d,b.2.2)])).bind fun e=>some (.nxt (i64.wrap (a.1+1),a.2.1,e))) else (some (.brk (a.1,a.2.1,a.2.2)))
def lu (a:(List Yq2)×Yq3):Option wM:=
 aO (ah (fB a) aU (0,[],[])) (fun r=>some r) (fun b=>aO (ah (fC a) aU (0,b.2.1,b.2.2)) (fun r=>some r) (fun c=>some (c.2.1,c.2.2)))
def kY (a:A8×wM×Yq8×ByteArray):Option RI:=
 (j4 (a.1.1,a.1.2)).bind fun b=>(lu (a.2.1.1,a.2.1.2)).bind fun c=>(bw 24 ([] :List GK) a.2.2.1).bind fun d=>some ((b.1,b.2),(c.1,c.2),d,a.2.2.2)
def fD (a:C9×Yq5×Yq8×ByteArray):Option (Int×C9×Yq5×Yq8×ByteArray):=
 (bS (a.1.1,a.1.2)).bind fun b=>some (b,(a.1.1,a.1.2),(a.2.1.1,a.2.1.2),a.2.2.1,a.2.2.2)
def fE (c:List Yq1) (d:Yq1->Option Bool) (a:Int):Option (Out Int Int):=
 if decide (a<(c.length:Int)) then ((aS c a).bind fun b=>(d (b.1,b.2.1,b.2.2.1,b.2.2.2)).bind fun e=>if e then (some (.ret a)) else (some (.nxt (i64.wrap (a+1))))) else (some (.brk a))
def dN (a:List Yq1) (b:Yq1->Option Bool):Option Int:=
 aO (ah (fE a b) aU 0) (fun r=>some r) (fun c=>some (-1))
def pG (a:Int×Int×Int×Int) (q0:Int):Option Bool:=
 some (a.1==q0)
def mC (a:(List Int)×(List Yq1)) (b:Int):Option Int:=
 (dN a.2 (fun a0=>pG a0 b)).bind fun c=>some c
def dk (a:List Yq1) (b:Int) (c:List Yq1):Option ((List Yq1)×(List Yq1)):=R.XR 32 a b c
def ru (c:Int×Int×Int×Int) (b:(List Int)×List Yq1) (a:Int):Option (Out (Yq7×Bool) Int):=
 if decide (a<(b.2.length:Int)) then ((aS b.2 a).bind fun d=>if decide (d.1<c.1) then (some (.nxt (i64.wrap (a+1)))) else (some (.brk a))) else (some (.brk a))
def nL (c:(List Int)×List Yq1) (b:Int×Int×Int×Int):Option (Yq7×Bool):=
 (ff (c.1,c.2)).bind fun a=>(bR (c.1,c.2)).bind fun d=>if d then ((jj (b.1,b.2.1,b.2.2.1,b.2.2.2) (c.1.length:Int)).bind fun e=>if e then ((mC (c.1,c.2) b.1).bind fun f=>if decide (f≥0) then (some ((a.1,a.2),false)) else (if (c.2.length:Int)==12 then (some ((a.1,a.2),false)) else (aO (ah (ru b a) aU 0) (fun g=>some g) (fun h=>(dk a.2 h ([(b.1,b.2.1,b.2.2.1,b.2.2.2)])).bind fun i=>some ((a.1,i.1),true))))) else (some ((a.1,a.2),false))) else (some ((a.1,a.2),false))
def bE (d:List Yq1) (b:Int×Int×Int×Int) (a:Int):Option (Out Int Int):=
 if decide (a<(d.length:Int)) then ((aS d a).bind fun c=>if ((b.1==c.1)&&((b.2.1==c.2.1)&&((b.2.2.1==c.2.2.1)&&((b.2.2.2==c.2.2.2)&&true)))) then (some (.ret a)) else (some (.nxt (i64.wrap (a+1))))) else (some (.brk a))
def fg (a:List Yq1) (b:Int×Int×Int×Int):Option Int:=
 aO (ah (bE a b) aU 0) (fun r=>some r) (fun c=>some (-1))
def cR (b:List Yq1) (a:Int×Int×Int×Int):Option Bool:=
 (fg b (a.1,a.2.1,a.2.2.1,a.2.2.2)).bind fun c=>some (decide (c≥0))
def dm (a:List Yq1) (p1 p2:Int):Option (List Yq1):=R.abG a p1 p2
def nM (a:(List Int)×List Yq1) (d:Int):Option (Yq7×Bool):=
 (ff (a.1,a.2)).bind fun b=>(mC (a.1,a.2) d).bind fun c=>if decide (c<0) then (some ((b.1,b.2),false)) else ((bR (a.1,a.2)).bind fun e=>if e then ((dm b.2 c (i64.wrap (c+1))).bind fun f=>some ((b.1,f),true)) else (some ((b.1,b.2),false)))
def cB (f:(List Int)×(List Yq1)) (g:(List (Bool×Yq1))) (a:Int×(List Int)×(List Yq1)):Option (Out (Yq6×Bool) (Int×(List Int)×(List Yq1))):=
 if decide (a.1<(g.length:Int)) then ((aS g a.1).bind fun b=>Option.bind ((if b.1 then ((nL (a.2.1,a.2.2) (b.2.1,b.2.2.1,b.2.2.2.1,b.2.2.2.2)).bind fun c=>some (c.2,c.1.1,c.1.2)) else ((cR a.2.2 (b.2.1,b.2.2.1,b.2.2.2.1,b.2.2.2.2)).bind fun i=>if i then ((nM (a.2.1,a.2.2) b.2.1).bind fun d=>some (d.2,d.1.1,d.1.2)) else (some (false,a.2.1,a.2.2))):Option (Bool×(List Int)×(List Yq1)))) (fun e=>if e.1 then (some (.nxt (i64.wrap (a.1+1),e.2.1,e.2.2))) else ((ff (f.1,f.2)).bind fun h=>some (.ret ((h.1,h.2),false))))) else (some (.brk (a.1,a.2.1,a.2.2)))
def kZ (b:(List Int)×(List Yq1)) (c:(List (Bool×Yq1))):Option (Yq6×Bool):=
 (ff (b.1,b.2)).bind fun a=>(bR (b.1,b.2)).bind fun e=>if e then (if decide ((c.length:Int)>6) then (some ((a.1,a.2),false)) else (aO (ah (cB b c) aU (0,a.1,a.2)) (fun r=>some r) (fun d=>some ((d.2.1,d.2.2),true)))) else (some ((a.1,a.2),false))
def j5 (b:Int×List Yq7) (h:List Yq4):Option (C9×Bool):=
 (j4 (b.1,b.2)).bind fun a=>(bS (b.1,b.2)).bind fun e=>if e==0 then (some ((a.1,a.2),false)) else (if e==999 then (some ((a.1,a.2),false)) else ((aS b.2 (i64.wrap ((b.2.length:Int) - 1))).bind fun f=>(kZ (f.1,f.2) h).bind fun d=>if d.2 then ((bw 48 a.2 ([(d.1.1,d.1.2)])).bind fun c=>Option.bind ((if decide ((c.length:Int)>8) then ((chk (And ((0:Int)<=1) (1<=(c.length:Int)))).bind fun _=>some (i64.wrap (a.1+1),c.drop 1)) else (some (a.1,c)):Option C9)) (fun g=>some ((g.1,g.2),true))) else (some ((a.1,a.2),false))))
def j6 (b:C9×Yq5×Yq8×ByteArray) (d:List Yq4):Option (PY×Bool):=
 (kY ((b.1.1,b.1.2),(b.2.1.1,b.2.1.2),b.2.2.1,b.2.2.2)).bind fun a=>(cQ ((b.1.1,b.1.2),(b.2.1.1,b.2.1.2),b.2.2.1,b.2.2.2)).bind fun f=>if f then ((j5 (b.1.1,b.1.2) d).bind fun c=>if c.2 then ((bS (c.1.1,c.1.2)).bind fun g=>(fY g d).bind fun h=>(jA b.2.2.2 h).bind fun e=>if decide (((e.size:Nat):Int)>4000) then (some (((a.1.1,a.1.2),(a.2.1.1,a.2.1.2),a.2.2.1,a.2.2.2),false)) else (some (((c.1.1,c.1.2),(a.2.1.1,a.2.1.2),a.2.2.1,e),true))) else (some (((a.1.1,a.1.2),(a.2.1.1,a.2.1.2),a.2.2.1,a.2.2.2),false))) else (some (((a.1.1,a.1.2),(a.2.1.1,a.2.1.2),a.2.2.1,a.2.2.2),false))
def iP (c:List Yq4) (b:C9×Yq5×Yq8×ByteArray):Option (Bool×C9×Yq5×Yq8×ByteArray):=
 (j6 ((b.1.1,b.1.2),(b.2.1.1,b.2.1.2),b.2.2.1,b.2.2.2) c).bind fun a=>some (a.2,(a.1.1.1,a.1.1.2),(a.1.2.1.1,a.1.2.1.2),a.1.2.2.1,a.1.2.2.2)
def cT (f:(List Int)×(List (List Yq4))×Int) (a:Int×Int×(List (List Yq4))×Int×(List Yq7)×(List Yq9)×(List IF)×Yq8×ByteArray):Option (Out (Int×C9×Yq5×Yq8×ByteArray) ado):=
 if decide (a.2.1<(f.1.length:Int)) then (fO (S:=Int×(List (List Yq4))×Int×(List Yq7)×(List Yq9)×(List IF)×Yq8×ByteArray) ((aS f.1 a.2.1).bind fun g=>(fD ((a.2.2.2.1,a.2.2.2.2.1),(a.2.2.2.2.2.1,a.2.2.2.2.2.2.1),a.2.2.2.2.2.2.2.1,a.2.2.2.2.2.2.2.2)).bind fun b=>if decide (g<=b.1) then (some (.inr (a.1,a.2.2.1,b.2.1.1,b.2.1.2,b.2.2.1.1,b.2.2.1.2,b.2.2.2.1,b.2.2.2.2))) else ((fD ((b.2.1.1,b.2.1.2),(b.2.2.1.1,b.2.2.1.2),b.2.2.2.1,b.2.2.2.2)).bind fun c=>if g !=(i64.wrap (c.1+1)) then (some (.inl (.brk (a.1,a.2.1,a.2.2.1,c.2.1.1,c.2.1.2,c.2.2.1.1,c.2.2.1.2,c.2.2.2.1,c.2.2.2.2)))) else ((aS a.2.2.1 a.2.1).bind fun h=>(iP h ((c.2.1.1,c.2.1.2),(c.2.2.1.1,c.2.2.1.2),c.2.2.2.1,c.2.2.2.2)).bind fun d=>if d.1 then (some (.inr (i64.wrap (a.1+1),a.2.2.1,d.2.1.1,d.2.1.2,d.2.2.1.1,d.2.2.1.2,d.2.2.2.1,d.2.2.2.2))) else (some (.inl (.brk (a.1,a.2.1,a.2.2.1,d.2.1.1,d.2.1.2,d.2.2.1.1,d.2.2.1.2,d.2.2.2.1,d.2.2.2.2))))))) (fun e=>some (.nxt (e.1,i64.wrap (a.2.1+1),e.2.1,e.2.2.1,e.2.2.2.1,e.2.2.2.2.1,e.2.2.2.2.2.1,e.2.2.2.2.2.2.1,e.2.2.2.2.2.2.2)))) else (some (.brk (a.1,a.2.1,a.2.2.1,a.2.2.2.1,a.2.2.2.2.1,a.2.2.2.2.2.1,a.2.2.2.2.2.2.1,a.2.2.2.2.2.2.2.1,a.2.2.2.2.2.2.2.2)))
def zy (d:ByteArray) (b:C9×Yq5×Yq8×ByteArray) (f:Unit):Option (Int×C9×Yq5×Yq8×ByteArray):=
 (m_i_ScanLog d).bind fun c=>aO (ah (cT c) aU (0,0,c.2.1,b.1.1,b.1.2,b.2.1.1,b.2.1.2,b.2.2.1,b.2.2.2)) (fun e=>some e) (fun a=>some (a.1,(a.2.2.2.1,a.2.2.2.2.1),(a.2.2.2.2.2.1,a.2.2.2.2.2.2.1),a.2.2.2.2.2.2.2.1,a.2.2.2.2.2.2.2.2))
def iu (a:C9×Yq5×Yq8×ByteArray) (d:ByteArray):Option (PY×Int):=
 (kY ((a.1.1,a.1.2),(a.2.1.1,a.2.1.2),a.2.2.1,a.2.2.2)).bind fun b=>(cQ ((a.1.1,a.1.2),(a.2.1.1,a.2.1.2),a.2.2.1,a.2.2.2)).bind fun e=>if e then ((zy d ((b.1.1,b.1.2),(b.2.1.1,b.2.1.2),b.2.2.1,b.2.2.2) ()).bind fun c=>some (((c.2.1.1,c.2.1.2),(c.2.2.1.1,c.2.2.1.2),c.2.2.2.1,c.2.2.2.2),c.1)) else (some (((b.1.1,b.1.2),(b.2.1.1,b.2.1.2),b.2.2.1,b.2.2.2),0))
def aJ (d:(List Int)×(List (List Yq4))×Int) (a:Int×Int×(List (List Yq4))×Int×(List Yq7)×(List Yq9)×(List IF)×Yq8×ByteArray):Option (Out (PY×Int) ado):=
 if decide (a.2.1<(d.1.length:Int)) then (fO (S:=Int×(List (List Yq4))×Int×(List Yq7)×(List Yq9)×(List IF)×Yq8×ByteArray) ((aS d.1 a.2.1).bind fun e=>(aF (a.2.2.2.1,a.2.2.2.2.1)).bind fun f=>if decide (e<=f) then (some (.inr (a.1,a.2.2.1,a.2.2.2.1,a.2.2.2.2.1,a.2.2.2.2.2.1,a.2.2.2.2.2.2.1,a.2.2.2.2.2.2.2.1,a.2.2.2.2.2.2.2.2))) else ((aS a.2.2.1 a.2.1).bind fun g=>(bV ((a.2.2.2.1,a.2.2.2.2.1),(a.2.2.2.2.2.1,a.2.2.2.2.2.2.1),a.2.2.2.2.2.2.2.1,a.2.2.2.2.2.2.2.2) g).bind fun c=>if c.2 then ((aS d.1 a.2.1).bind fun h=>(aF (a.2.2.2.1,a.2.2.2.2.1)).bind fun i=>if h !=(i64.wrap (i+1)) then (some (.inl (.ret (((a.2.2.2.1,a.2.2.2.2.1),(a.2.2.2.2.2.1,a.2.2.2.2.2.2.1),a.2.2.2.2.2.2.2.1,a.2.2.2.2.2.2.2.2),a.1)))) else (some (.inr (i64.wrap (a.1+1),a.2.2.1,c.1.1.1,c.1.1.2,c.1.2.1.1,c.1.2.1.2,c.1.2.2.1,c.1.2.2.2)))) else (some (.inl (.ret (((a.2.2.2.1,a.2.2.2.2.1),(a.2.2.2.2.2.1,a.2.2.2.2.2.2.1),a.2.2.2.2.2.2.2.1,a.2.2.2.2.2.2.2.2),a.1)))))) (fun b=>some (.nxt (b.1,i64.wrap (a.2.1+1),b.2.1,b.2.2.1,b.2.2.2.1,b.2.2.2.2.1,b.2.2.2.2.2.1,b.2.2.2.2.2.2.1,b.2.2.2.2.2.2.2)))) else (some (.brk (a.1,a.2.1,a.2.2.1,a.2.2.2.1,a.2.2.2.2.1,a.2.2.2.2.2.1,a.2.2.2.2.2.2.1,a.2.2.2.2.2.2.2.1,a.2.2.2.2.2.2.2.2)))
def cU (a:C9×Yq5×Yq8×ByteArray) (e:ByteArray):Option (PY×Int):=
 (gE ((a.1.1,a.1.2),(a.2.1.1,a.2.1.2),a.2.2.1,a.2.2.2)).bind fun b=>(bh ((a.1.1,a.1.2),(a.2.1.1,a.2.1.2),a.2.2.1,a.2.2.2)).bind fun f=>if f then ((m_s_ScanLog e).bind fun d=>aO (ah (aJ d) aU (0,0,d.2.1,b.1.1,b.1.2,b.2.1.1,b.2.1.2,b.2.2.1,b.2.2.2)) (fun g=>some g) (fun c=>some (((c.2.2.2.1,c.2.2.2.2.1),(c.2.2.2.2.2.1,c.2.2.2.2.2.2.1),c.2.2.2.2.2.2.2.1,c.2.2.2.2.2.2.2.2),c.1))) else (some (((b.1.1,b.1.2),(b.2.1.1,b.2.1.2),b.2.2.1,b.2.2.2),0))
def be (b:List Yq6) (e:List Yq6) (f:Yq6->Yq6->Option Bool) (a:Int):Option (Out Bool Int):=
 if decide (a<(b.length:Int)) then ((aS b a).bind fun c=>(aS e a).bind fun d=>(f (c.1,c.2) (d.1,d.2)).bind fun g=>if g then (some (.nxt (i64.wrap (a+1)))) else (some (.ret false))) else (some (.brk a))
def bY (a:List Yq6) (b:List Yq6) (c:Yq6->Yq6->Option Bool):Option Bool:=
 if (a.length:Int) !=(b.length:Int) then (some false) else (aO (ah (be a b c) aU 0) (fun r=>some r) (fun d=>some true))
def cV (d:List Yq1) (e:List Yq1) (a:Int):Option (Out Bool Int):=
 if decide (a<(d.length:Int)) then ((aS d a).bind fun b=>(aS e a).bind fun c=>if (b.1==c.1)&&((b.2.1==c.2.1)&&((b.2.2.1==c.2.2.1)&&((b.2.2.2==c.2.2.2)&&true))) then (some (.nxt (i64.wrap (a+1)))) else (some (.ret false))) else (some (.brk a))
def dz (a:List Yq1) (b:List Yq1):Option Bool:=
 if (a.length:Int) !=(b.length:Int) then (some false) else (aO (ah (cV a b) aU 0) (fun r=>some r) (fun c=>some true))
def j7 (a:(List Int)×(List Yq1)) (b:(List Int)×(List Yq1)):Option Bool:=
 (cq a.1 b.1).bind fun c=>if c then ((dz a.2 b.2).bind fun d=>some d) else (some false)
def jt (a:Int×(List Yq6)) (b:Int×(List Yq6)):Option Bool:=
 if a.1==b.1 then ((bY a.2 b.2 (fun a0 a1=>j7 a0 a1)).bind fun c=>some c) else (some false)
def bB (d:List GK) (e:List GK) (a:Int):Option (Out Bool Int):=
 if decide (a<(d.length:Int)) then ((aS d a).bind fun b=>(aS e a).bind fun c=>if (b.1==c.1)&&((b.2.1==c.2.1)&&((b.2.2==c.2.2)&&true)) then (some (.nxt (i64.wrap (a+1)))) else (some (.ret false))) else (some (.brk a))
def bP (a:List GK) (b:List GK):Option Bool:=
 if (a.length:Int) !=(b.length:Int) then (some false) else (aO (ah (bB a b) aU 0) (fun r=>some r) (fun c=>some true))
def lx (a:A8×wM×Yq8×ByteArray) (b:A8×wM×Yq8×ByteArray):Option Bool:=
 (jt (a.1.1,a.1.2) (b.1.1,b.1.2)).bind fun c=>if c then ((fx (a.2.1.1,a.2.1.2) (b.2.1.1,b.2.1.2)).bind fun d=>if d then ((bP a.2.2.1 b.2.2.1).bind fun e=>if e then (some (a.2.2.2==b.2.2.2)) else (some false)) else (some false)) else (some false)
def dJ (a:A8×wM×Yq8×ByteArray) (c:ByteArray):Option Int:=
 (cQ ((a.1.1,a.1.2),(a.2.1.1,a.2.1.2),a.2.2.1,a.2.2.2)).bind fun d=>if d then ((iu ((a.1.1,a.1.2),(a.2.1.1,a.2.1.2),a.2.2.1,a.2.2.2) c).bind fun b=>(bS (b.1.1.1,b.1.1.2)).bind fun e=>some e) else (some 0)
def dK (a:A8×wM×Yq8×ByteArray) (c:ByteArray):Option Int:=
 (bh ((a.1.1,a.1.2),(a.2.1.1,a.2.1.2),a.2.2.1,a.2.2.2)).bind fun d=>if d then ((cU ((a.1.1,a.1.2),(a.2.1.1,a.2.1.2),a.2.2.1,a.2.2.2) c).bind fun b=>(aF (b.1.1.1,b.1.1.2)).bind fun e=>some e) else (some 0)
def aP (c:(List Int)×(List (List Yq4))×Int) (a:Int×Int×(List (List Yq4))×Int×List Yq7):Option (Out (C9×Int) (Int×Int×(List (List Yq4))×Int×List Yq7)):=
 if decide (a.2.1<(c.1.length:Int)) then (fO (S:=Int×(List (List Yq4))×Int×List Yq7) ((aS c.1 a.2.1).bind fun e=>(aF (a.2.2.2.1,a.2.2.2.2)).bind fun f=>if decide (e<=f) then (some (.inr (a.1,a.2.2.1,a.2.2.2.1,a.2.2.2.2))) else ((aS a.2.2.1 a.2.1).bind fun g=>(bM (a.2.2.2.1,a.2.2.2.2) g).bind fun d=>(aS c.1 a.2.1).bind fun h=>(aF (a.2.2.2.1,a.2.2.2.2)).bind fun i=>if h !=(i64.wrap (i+1)) then (some (.inl (.ret ((a.2.2.2.1,a.2.2.2.2),a.1)))) else (if d.2 then (some (.inr (i64.wrap (a.1+1),a.2.2.1,d.1.1,d.1.2))) else (some (.inl (.ret ((a.2.2.2.1,a.2.2.2.2),a.1))))))) (fun b=>some (.nxt (b.1,i64.wrap (a.2.1+1),b.2.1,b.2.2.1,b.2.2.2)))) else (some (.brk (a.1,a.2.1,a.2.2.1,a.2.2.2.1,a.2.2.2.2)))
def oS (a:Int×List Yq7) (e:ByteArray):Option (C9×Int):=
 (kB (a.1,a.2)).bind fun b=>(m_s_IsValidHistory (a.1,a.2)).bind fun f=>if f then ((m_s_ScanLog e).bind fun d=>aO (ah (aP d) aU (0,0,d.2.1,b.1,b.2)) (fun g=>some g) (fun c=>some ((c.2.2.2.1,c.2.2.2.2),c.1))) else (some ((b.1,b.2),0))
def ju (d:(List Int)×(List Yq1)) (e:(List Int)×(List Yq1)) (a:Int):Option (Out Bool Int):=
 if decide (a<(d.2.length:Int)) then ((aS d.2 a).bind fun b=>(aS e.2 a).bind fun c=>if (b.1==c.1)&&((b.2.1==c.2.1)&&((b.2.2.1==c.2.2.1)&&((b.2.2.2==c.2.2.2)&&true))) then (some (.nxt (i64.wrap (a+1)))) else (some (.ret false))) else (some (.brk a))
def mD (a:(List Int)×(List Yq1)) (b:(List Int)×(List Yq1)):Option Bool:=
 (nT a.1 b.1).bind fun c=>if c !=0 then (some false) else (if (a.2.length:Int) !=(b.2.length:Int) then (some false) else (aO (ah (ju a b) aU 0) (fun r=>some r) (fun d=>some true)))
def gr (b:Int×(List Yq6)) (e:Int×(List Yq6)) (a:Int):Option (Out Bool Int):=
 if decide (a<(b.2.length:Int)) then ((aS b.2 a).bind fun c=>(aS e.2 a).bind fun d=>(mD (c.1,c.2) (d.1,d.2)).bind fun f=>if f then (some (.nxt (i64.wrap (a+1)))) else (some (.ret false))) else (some (.brk a))
def jv (a:Int×(List Yq6)) (b:Int×(List Yq6)):Option Bool:=
 if a.1 !=b.1 then (some false) else (if (a.2.length:Int) !=(b.2.length:Int) then (some false) else (aO (ah (gr a b) aU 0) (fun r=>some r) (fun c=>some true)))
def nO (e:List Int):Option Bool:=
 (Jy e).bind fun f=>if f then (some true) else ((gi e).bind fun a=>(iu ((a.1.1.1,a.1.1.2),(a.1.2.1.1,a.1.2.1.2),a.1.2.2.1,a.1.2.2.2) a.2).bind fun b=>(cU ((a.1.1.1,a.1.1.2),(a.1.2.1.1,a.1.2.1.2),a.1.2.2.1,a.1.2.2.2) a.2).bind fun c=>if b.2 !=c.2 then (some false) else ((lx ((b.1.1.1,b.1.1.2),(b.1.2.1.1,b.1.2.1.2),b.1.2.2.1,b.1.2.2.2) ((c.1.1.1,c.1.1.2),(c.1.2.1.1,c.1.2.1.2),c.1.2.2.1,c.1.2.2.2)).bind fun g=>if g then ((dJ ((a.1.1.1,a.1.1.2),(a.1.2.1.1,a.1.2.1.2),a.1.2.2.1,a.1.2.2.2) a.2).bind fun h=>(dK ((a.1.1.1,a.1.1.2),(a.1.2.1.1,a.1.2.1.2),a.1.2.2.1,a.1.2.2.2) a.2).bind fun i=>if h !=i then (some false) else ((bh ((a.1.1.1,a.1.1.2),(a.1.2.1.1,a.1.2.1.2),a.1.2.2.1,a.1.2.2.2)).bind fun j=>if j then ((oS (a.1.1.1,a.1.1.2) a.2).bind fun d=>if b.2==d.2 then ((jv (d.1.1,d.1.2) (b.1.1.1,b.1.1.2)).bind fun k=>if k then ((cQ ((b.1.1.1,b.1.1.2),(b.1.2.1.1,b.1.2.1.2),b.1.2.2.1,b.1.2.2.2)).bind fun l=>if l then ((dJ ((a.1.1.1,a.1.1.2),(a.1.2.1.1,a.1.2.1.2),a.1.2.2.1,a.1.2.2.2) a.2).bind fun m=>(aF (a.1.1.1,a.1.1.2)).bind fun n=>some (m==(i64.wrap (n+b.2)))) else (some false)) else (some false)) else ((cQ ((b.1.1.1,b.1.1.2),(b.1.2.1.1,b.1.2.1.2),b.1.2.2.1,b.1.2.2.2)).bind fun o=>if o then ((dJ ((a.1.1.1,a.1.1.2),(a.1.2.1.1,a.1.2.1.2),a.1.2.2.1,a.1.2.2.2) a.2).bind fun p=>(aF (a.1.1.1,a.1.1.2)).bind fun q=>some (p==(i64.wrap (q+b.2)))) else (some false))) else (some (b.2==0)))) else (some false)))
end D
end Go.Proofs.YtodbpnpbhpeepaaGreatDoor
