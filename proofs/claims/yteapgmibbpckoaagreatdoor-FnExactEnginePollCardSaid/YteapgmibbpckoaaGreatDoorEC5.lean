/- FnExactEnginePoll: for every input the law returns true and changes nothing that was there. Part 6 of 9. -/
import Derived.Test.YteapgmibbpckoaaGreatDoorEC4
set_option synthInstance.maxSize 20000
set_option synthInstance.maxHeartbeats 2000000
set_option linter.unusedVariables false
set_option linter.unusedSimpArgs false
set_option linter.unnecessarySimpa false
set_option linter.unusedSectionVars false
set_option maxRecDepth 1000000
namespace Go.Proofs.YteapgmibbpckoaaGreatDoor
open Go.IntKind (i64)
namespace R
open Go.Shelf
def B8:Go.Shelf.Ren:=⟨fun | 156=>262 | 165=>309 | 166=>310 | 169=>311 | 240=>349 | 241=>350 | 276=>380 | 277=>381 | n=>n,fun | 31=>196 | 9=>9 | 3=>3 | 4=>4 | 0=>0 | 20=>20 | 72=>328 | 76=>232 | 70=>326 | 37=>304 | 75=>231 | 127=>365 | 164=>398 | 5=>5 | 80=>330 | n=>n,fun | n=>n⟩
theorem Y8:Go.Proofs.Lays.n156 Tryz.prog B8:= {
 mixed:=by kernel_rfl
 f156:=Tryz.func262.trans (congrArg some (by kernel_rfl))
 f165:=Tryz.func309.trans (congrArg some (by kernel_rfl))
 f166:=Tryz.func310.trans (congrArg some (by kernel_rfl))
 f169:=Tryz.func311.trans (congrArg some (by kernel_rfl))
 f240:=Tryz.func349.trans (congrArg some (by kernel_rfl))
 f241:=Tryz.func350.trans (congrArg some (by kernel_rfl))
 f276:=Tryz.func380.trans (congrArg some (by kernel_rfl))
 f277:=Tryz.func381.trans (congrArg some (by kernel_rfl))
 t0:=Tryz.underlying0
 a0:=Tryz.isAgg0
 z0:=Tryz.sizeOf0
 v0:=Tryz.zeroValue0
 t3:=Tryz.underlying3
 a3:=Tryz.isAgg3
 z3:=Tryz.sizeOf3
 v3:=Tryz.zeroValue3
 t4:=Tryz.underlying4
 a4:=Tryz.isAgg4
 z4:=Tryz.sizeOf4
 v4:=Tryz.zeroValue4
 t9:=Tryz.underlying9
 a9:=Tryz.isAgg9
 z9:=Tryz.sizeOf9
 v9:=Tryz.zeroValue9
 t20:=Tryz.underlying20
 a20:=Tryz.isAgg20
 z20:=Tryz.sizeOf20
 v20:=Tryz.zeroValue20
 t31:=Tryz.underlying196
 a31:=Tryz.isAgg196
 z31:=Tryz.sizeOf196
 v31:=Tryz.zeroValue196
 t37:=Tryz.underlying304
 a37:=Tryz.isAgg304
 z37:=Tryz.sizeOf304
 v37:=Tryz.zeroValue304
 t70:=Tryz.underlying326
 a70:=Tryz.isAgg326
 z70:=Tryz.sizeOf326
 v70:=Tryz.zeroValue326
 t72:=Tryz.underlying328
 a72:=Tryz.isAgg328
 z72:=Tryz.sizeOf328
 v72:=Tryz.zeroValue328
 t75:=Tryz.underlying231
 a75:=Tryz.isAgg231
 z75:=Tryz.sizeOf231
 v75:=Tryz.zeroValue231
 t76:=Tryz.underlying232
 a76:=Tryz.isAgg232
 z76:=Tryz.sizeOf232
 v76:=Tryz.zeroValue232
 t127:=Tryz.underlying365
 a127:=Tryz.isAgg365
 z127:=Tryz.sizeOf365
 v127:=Tryz.zeroValue365
 t164:=Tryz.underlying398
 a164:=Tryz.isAgg398
 z164:=Tryz.sizeOf398
 v164:=Tryz.zeroValue398 }
def LX:Go.Shelf.Ren:=⟨fun | 171=>209 | 243=>259 | 246=>307 | 283=>345 | 284=>346 | 285=>347 | 286=>348 | 129=>325 | 317=>376 | 318=>377 | 319=>378 | 320=>379 | 337=>386 | 338=>387 | n=>n,fun | 3=>3 | 9=>9 | 2=>2 | 4=>4 | 171=>361 | 0=>0 | 53=>344 | 37=>304 | 5=>5 | 173=>363 | 212=>396 | 51=>342 | 20=>20 | 213=>397 | 46=>294 | 232=>407 | 233=>408 | n=>n,fun | 17=>5 | 18=>6 | 19=>7 | n=>n⟩
theorem Qj:Go.Proofs.LaysM.n171 Tryz.prog LX:= {
 mixed:=by kernel_rfl
 f129:=Tryz.func325.trans (congrArg some (by kernel_rfl))
 f171:=Tryz.func209.trans (congrArg some (by kernel_rfl))
 f243:=Tryz.func259.trans (congrArg some (by kernel_rfl))
 f246:=Tryz.func307.trans (congrArg some (by kernel_rfl))
 f283:=Tryz.func345.trans (congrArg some (by kernel_rfl))
 f284:=Tryz.func346.trans (congrArg some (by kernel_rfl))
 f285:=Tryz.func347.trans (congrArg some (by kernel_rfl))
 f286:=Tryz.func348.trans (congrArg some (by kernel_rfl))
 f317:=Tryz.func376.trans (congrArg some (by kernel_rfl))
 f318:=Tryz.func377.trans (congrArg some (by kernel_rfl))
 f319:=Tryz.func378.trans (congrArg some (by kernel_rfl))
 f320:=Tryz.func379.trans (congrArg some (by kernel_rfl))
 f337:=Tryz.func386.trans (congrArg some (by kernel_rfl))
 f338:=Tryz.func387.trans (congrArg some (by kernel_rfl))
 t0:=Tryz.underlying0
 a0:=Tryz.isAgg0
 z0:=Tryz.sizeOf0
 v0:=Tryz.zeroValue0
 t2:=Tryz.underlying2
 a2:=Tryz.isAgg2
 z2:=Tryz.sizeOf2
 v2:=Tryz.zeroValue2
 t3:=Tryz.underlying3
 a3:=Tryz.isAgg3
 z3:=Tryz.sizeOf3
 v3:=Tryz.zeroValue3
 t4:=Tryz.underlying4
 a4:=Tryz.isAgg4
 z4:=Tryz.sizeOf4
 v4:=Tryz.zeroValue4
 t5:=Tryz.underlying5
 a5:=Tryz.isAgg5
 z5:=Tryz.sizeOf5
 v5:=Tryz.zeroValue5
 t9:=Tryz.underlying9
 a9:=Tryz.isAgg9
 z9:=Tryz.sizeOf9
 v9:=Tryz.zeroValue9
 t20:=Tryz.underlying20
 a20:=Tryz.isAgg20
 z20:=Tryz.sizeOf20
 v20:=Tryz.zeroValue20
 t37:=Tryz.underlying304
 a37:=Tryz.isAgg304
 z37:=Tryz.sizeOf304
 v37:=Tryz.zeroValue304
 t46:=Tryz.underlying294
 a46:=Tryz.isAgg294
 z46:=Tryz.sizeOf294
 v46:=Tryz.zeroValue294
 t51:=Tryz.underlying342
 a51:=Tryz.isAgg342
 z51:=Tryz.sizeOf342
 v51:=Tryz.zeroValue342
 t53:=Tryz.underlying344
 a53:=Tryz.isAgg344
 z53:=Tryz.sizeOf344
 v53:=Tryz.zeroValue344
 t171:=Tryz.underlying361
 a171:=Tryz.isAgg361
 z171:=Tryz.sizeOf361
 v171:=Tryz.zeroValue361
 t173:=Tryz.underlying363
 a173:=Tryz.isAgg363
 z173:=Tryz.sizeOf363
 v173:=Tryz.zeroValue363
 t212:=Tryz.underlying396
 a212:=Tryz.isAgg396
 z212:=Tryz.sizeOf396
 v212:=Tryz.zeroValue396
 t213:=Tryz.underlying397
 a213:=Tryz.isAgg397
 z213:=Tryz.sizeOf397
 t232:=Tryz.underlying407
 a232:=Tryz.isAgg407
 z232:=Tryz.sizeOf407
 v232:=Tryz.zeroValue407
 t233:=Tryz.underlying408
 a233:=Tryz.isAgg408
 z233:=Tryz.sizeOf408
 v233:=Tryz.zeroValue408
 g17:=by kernel_rfl
 g18:=by kernel_rfl
 g19:=by kernel_rfl
 i0:=by kernel_rfl
 i2:=by kernel_rfl
 i3:=by kernel_rfl
 i4:=by kernel_rfl
 i5:=by kernel_rfl
 i9:=by kernel_rfl
 i20:=by kernel_rfl
 i37:=by kernel_rfl
 i46:=by kernel_rfl
 i51:=by kernel_rfl
 i53:=by kernel_rfl
 i171:=by kernel_rfl
 i173:=by kernel_rfl
 i212:=by kernel_rfl
 i232:=by kernel_rfl
 i233:=by kernel_rfl
 m17:=by kernel_rfl
 m18:=by kernel_rfl
 m19:=by kernel_rfl }
def Jr:Go.Shelf.Ren:=⟨fun | 146=>169 | 221=>207 | 268=>254 | 138=>255 | 143=>256 | 195=>298 | 197=>299 | 218=>300 | 219=>301 | 260=>338 | 217=>168 | 225=>339 | 224=>340 | 267=>341 | 266=>206 | 314=>373 | n=>n,fun | 9=>9 | 31=>196 | 3=>3 | 4=>4 | 0=>0 | 105=>317 | 21=>21 | 5=>5 | 46=>294 | 119=>385 | 139=>388 | 138=>387 | 146=>366 | 51=>342 | n=>n,fun | 1=>0 | 3=>3 | 4=>4 | n=>n⟩
theorem Vk:Go.Proofs.Lays.n146 Tryz.prog Jr:= {
 mixed:=by kernel_rfl
 f138:=Tryz.func255.trans (congrArg some (by kernel_rfl))
 f143:=Tryz.func256.trans (congrArg some (by kernel_rfl))
 f146:=Tryz.func169.trans (congrArg some (by kernel_rfl))
 f195:=Tryz.func298.trans (congrArg some (by kernel_rfl))
 f197:=Tryz.func299.trans (congrArg some (by kernel_rfl))
 f217:=Tryz.func168.trans (congrArg some (by kernel_rfl))
 f218:=Tryz.func300.trans (congrArg some (by kernel_rfl))
 f219:=Tryz.func301.trans (congrArg some (by kernel_rfl))
 f221:=Tryz.func207.trans (congrArg some (by kernel_rfl))
 f224:=Tryz.func340.trans (congrArg some (by kernel_rfl))
 f225:=Tryz.func339.trans (congrArg some (by kernel_rfl))
 f260:=Tryz.func338.trans (congrArg some (by kernel_rfl))
 f266:=Tryz.func206.trans (congrArg some (by kernel_rfl))
 f267:=Tryz.func341.trans (congrArg some (by kernel_rfl))
 f268:=Tryz.func254.trans (congrArg some (by kernel_rfl))
 f314:=Tryz.func373.trans (congrArg some (by kernel_rfl))
 t0:=Tryz.underlying0
 a0:=Tryz.isAgg0
 z0:=Tryz.sizeOf0
 v0:=Tryz.zeroValue0
 t3:=Tryz.underlying3
 a3:=Tryz.isAgg3
 z3:=Tryz.sizeOf3
 v3:=Tryz.zeroValue3
 t4:=Tryz.underlying4
 a4:=Tryz.isAgg4
 z4:=Tryz.sizeOf4
 v4:=Tryz.zeroValue4
 t5:=Tryz.underlying5
 a5:=Tryz.isAgg5
 z5:=Tryz.sizeOf5
 v5:=Tryz.zeroValue5
 t9:=Tryz.underlying9
 a9:=Tryz.isAgg9
 z9:=Tryz.sizeOf9
 v9:=Tryz.zeroValue9
 t21:=Tryz.underlying21
 a21:=Tryz.isAgg21
 z21:=Tryz.sizeOf21
 v21:=Tryz.zeroValue21
 t31:=Tryz.underlying196
 a31:=Tryz.isAgg196
 z31:=Tryz.sizeOf196
 v31:=Tryz.zeroValue196
 t46:=Tryz.underlying294
 a46:=Tryz.isAgg294
 z46:=Tryz.sizeOf294
 v46:=Tryz.zeroValue294
 t51:=Tryz.underlying342
 a51:=Tryz.isAgg342
 z51:=Tryz.sizeOf342
 v51:=Tryz.zeroValue342
 t105:=Tryz.underlying317
 a105:=Tryz.isAgg317
 z105:=Tryz.sizeOf317
 v105:=Tryz.zeroValue317
 t119:=Tryz.underlying385
 a119:=Tryz.isAgg385
 z119:=Tryz.sizeOf385
 t138:=Tryz.underlying387
 a138:=Tryz.isAgg387
 z138:=Tryz.sizeOf387
 v138:=Tryz.zeroValue387
 t139:=Tryz.underlying388
 a139:=Tryz.isAgg388
 z139:=Tryz.sizeOf388
 v139:=Tryz.zeroValue388
 t146:=Tryz.underlying366
 a146:=Tryz.isAgg366
 z146:=Tryz.sizeOf366
 v146:=Tryz.zeroValue366
 g1:=by kernel_rfl
 g3:=by kernel_rfl
 g4:=by kernel_rfl }
def N3:Go.Shelf.Ren:=⟨fun | 145=>260 | 220=>308 | 219=>301 | 217=>168 | 225=>339 | 224=>340 | 267=>341 | 266=>206 | 314=>373 | n=>n,fun | 9=>9 | 4=>4 | 59=>281 | 3=>3 | 5=>5 | 46=>294 | 146=>366 | 51=>342 | n=>n,fun | 1=>0 | n=>n⟩
theorem adz:Go.Proofs.Lays.n145 Tryz.prog N3:= {
 mixed:=by kernel_rfl
 f145:=Tryz.func260.trans (congrArg some (by kernel_rfl))
 f217:=Tryz.func168.trans (congrArg some (by kernel_rfl))
 f219:=Tryz.func301.trans (congrArg some (by kernel_rfl))
 f220:=Tryz.func308.trans (congrArg some (by kernel_rfl))
 f224:=Tryz.func340.trans (congrArg some (by kernel_rfl))
 f225:=Tryz.func339.trans (congrArg some (by kernel_rfl))
 f266:=Tryz.func206.trans (congrArg some (by kernel_rfl))
 f267:=Tryz.func341.trans (congrArg some (by kernel_rfl))
 f314:=Tryz.func373.trans (congrArg some (by kernel_rfl))
 t3:=Tryz.underlying3
 a3:=Tryz.isAgg3
 z3:=Tryz.sizeOf3
 v3:=Tryz.zeroValue3
 t4:=Tryz.underlying4
 a4:=Tryz.isAgg4
 z4:=Tryz.sizeOf4
 v4:=Tryz.zeroValue4
 t5:=Tryz.underlying5
 a5:=Tryz.isAgg5
 z5:=Tryz.sizeOf5
 v5:=Tryz.zeroValue5
 t9:=Tryz.underlying9
 a9:=Tryz.isAgg9
 z9:=Tryz.sizeOf9
 v9:=Tryz.zeroValue9
 t46:=Tryz.underlying294
 a46:=Tryz.isAgg294
 z46:=Tryz.sizeOf294
 v46:=Tryz.zeroValue294
 t51:=Tryz.underlying342
 a51:=Tryz.isAgg342
 z51:=Tryz.sizeOf342
 v51:=Tryz.zeroValue342
 t59:=Tryz.underlying281
 a59:=Tryz.isAgg281
 z59:=Tryz.sizeOf281
 v59:=Tryz.zeroValue281
 t146:=Tryz.underlying366
 a146:=Tryz.isAgg366
 z146:=Tryz.sizeOf366
 v146:=Tryz.zeroValue366
 g1:=by kernel_rfl }
def Bb:Go.Shelf.Ren:=⟨fun | 137=>115 | 217=>168 | 266=>206 | n=>n,fun | 9=>9 | 5=>5 | 3=>3 | n=>n,fun | n=>n⟩
theorem Js:Go.Proofs.Lays.n137 Tryz.prog Bb:= {
 mixed:=by kernel_rfl
 f137:=Tryz.func115.trans (congrArg some (by kernel_rfl))
 f217:=Tryz.func168.trans (congrArg some (by kernel_rfl))
 f266:=Tryz.func206.trans (congrArg some (by kernel_rfl))
 t3:=Tryz.underlying3
 a3:=Tryz.isAgg3
 z3:=Tryz.sizeOf3
 v3:=Tryz.zeroValue3
 t5:=Tryz.underlying5
 a5:=Tryz.isAgg5
 z5:=Tryz.sizeOf5
 v5:=Tryz.zeroValue5
 t9:=Tryz.underlying9
 a9:=Tryz.isAgg9
 z9:=Tryz.sizeOf9
 v9:=Tryz.zeroValue9 }
def LY:Go.Shelf.Ren:=⟨fun | 172=>208 | 244=>257 | 245=>258 | 247=>302 | 279=>303 | 280=>304 | 281=>305 | 282=>306 | 287=>342 | 316=>343 | 171=>209 | 205=>344 | 321=>374 | 322=>375 | 243=>259 | 246=>307 | 283=>345 | 284=>346 | 285=>347 | 286=>348 | 129=>325 | 317=>376 | 318=>377 | 319=>378 | 320=>379 | 337=>386 | 338=>387 | n=>n,fun | 9=>9 | 3=>3 | 75=>231 | 76=>232 | 4=>4 | 5=>5 | 167=>319 | 37=>304 | 0=>0 | 85=>320 | 2=>2 | 168=>322 | 53=>344 | 175=>355 | 46=>294 | 210=>359 | 127=>365 | 145=>394 | 143=>392 | 21=>21 | 171=>361 | 173=>363 | 212=>396 | 51=>342 | 20=>20 | 213=>397 | 232=>407 | 233=>408 | 80=>330 | n=>n,fun | 15=>1 | 16=>2 | 17=>5 | 18=>6 | 19=>7 | n=>n⟩
theorem Qk:Go.Proofs.LaysC.n172 Tryz.prog LY:= {
 mixed:=by kernel_rfl
 f129:=Tryz.func325.trans (congrArg some (by kernel_rfl))
 f171:=Tryz.func209.trans (congrArg some (by kernel_rfl))
 f172:=Tryz.func208.trans (congrArg some (by kernel_rfl))
 f205:=Tryz.func344.trans (congrArg some (by kernel_rfl))
 f243:=Tryz.func259.trans (congrArg some (by kernel_rfl))
 f244:=Tryz.func257.trans (congrArg some (by kernel_rfl))
 f245:=Tryz.func258.trans (congrArg some (by kernel_rfl))
 f246:=Tryz.func307.trans (congrArg some (by kernel_rfl))
 f247:=Tryz.func302.trans (congrArg some (by kernel_rfl))
 f279:=Tryz.func303.trans (congrArg some (by kernel_rfl))
 f280:=Tryz.func304.trans (congrArg some (by kernel_rfl))
 f281:=Tryz.func305.trans (congrArg some (by kernel_rfl))
 f282:=Tryz.func306.trans (congrArg some (by kernel_rfl))
 f283:=Tryz.func345.trans (congrArg some (by kernel_rfl))
 f284:=Tryz.func346.trans (congrArg some (by kernel_rfl))
 f285:=Tryz.func347.trans (congrArg some (by kernel_rfl))
 f286:=Tryz.func348.trans (congrArg some (by kernel_rfl))
 f287:=Tryz.func342.trans (congrArg some (by kernel_rfl))
 f316:=Tryz.func343.trans (congrArg some (by kernel_rfl))
 f317:=Tryz.func376.trans (congrArg some (by kernel_rfl))
 f318:=Tryz.func377.trans (congrArg some (by kernel_rfl))
 f319:=Tryz.func378.trans (congrArg some (by kernel_rfl))
 f320:=Tryz.func379.trans (congrArg some (by kernel_rfl))
 f321:=Tryz.func374.trans (congrArg some (by kernel_rfl))
 f322:=Tryz.func375.trans (congrArg some (by kernel_rfl))
 f337:=Tryz.func386.trans (congrArg some (by kernel_rfl))
 f338:=Tryz.func387.trans (congrArg some (by kernel_rfl))
 t0:=Tryz.underlying0
 a0:=Tryz.isAgg0
 z0:=Tryz.sizeOf0
 v0:=Tryz.zeroValue0
 t2:=Tryz.underlying2
 a2:=Tryz.isAgg2
 z2:=Tryz.sizeOf2
 v2:=Tryz.zeroValue2
 t3:=Tryz.underlying3
 a3:=Tryz.isAgg3
 z3:=Tryz.sizeOf3
 v3:=Tryz.zeroValue3
 t4:=Tryz.underlying4
 a4:=Tryz.isAgg4
 z4:=Tryz.sizeOf4
 v4:=Tryz.zeroValue4
 t5:=Tryz.underlying5
 a5:=Tryz.isAgg5
 z5:=Tryz.sizeOf5
 v5:=Tryz.zeroValue5
 t9:=Tryz.underlying9
 a9:=Tryz.isAgg9
 z9:=Tryz.sizeOf9
 v9:=Tryz.zeroValue9
 t20:=Tryz.underlying20
 a20:=Tryz.isAgg20
 z20:=Tryz.sizeOf20
 v20:=Tryz.zeroValue20
 t21:=Tryz.underlying21
 a21:=Tryz.isAgg21
 z21:=Tryz.sizeOf21
 v21:=Tryz.zeroValue21
 t37:=Tryz.underlying304
 a37:=Tryz.isAgg304
 z37:=Tryz.sizeOf304
 v37:=Tryz.zeroValue304
 t46:=Tryz.underlying294
 a46:=Tryz.isAgg294
 z46:=Tryz.sizeOf294
 v46:=Tryz.zeroValue294
 t51:=Tryz.underlying342
 a51:=Tryz.isAgg342
 z51:=Tryz.sizeOf342
 v51:=Tryz.zeroValue342
 t53:=Tryz.underlying344
 a53:=Tryz.isAgg344
 z53:=Tryz.sizeOf344
 v53:=Tryz.zeroValue344
 t75:=Tryz.underlying231
 a75:=Tryz.isAgg231
 z75:=Tryz.sizeOf231
 v75:=Tryz.zeroValue231
 t76:=Tryz.underlying232
 a76:=Tryz.isAgg232
 z76:=Tryz.sizeOf232
 v76:=Tryz.zeroValue232
 t85:=Tryz.underlying320
 a85:=Tryz.isAgg320
 z85:=Tryz.sizeOf320
 v85:=Tryz.zeroValue320
 t127:=Tryz.underlying365
 a127:=Tryz.isAgg365
 z127:=Tryz.sizeOf365
 v127:=Tryz.zeroValue365
 t143:=Tryz.underlying392
 a143:=Tryz.isAgg392
 z143:=Tryz.sizeOf392
 v143:=Tryz.zeroValue392
 t145:=Tryz.underlying394
 a145:=Tryz.isAgg394
 z145:=Tryz.sizeOf394
 v145:=Tryz.zeroValue394
 t167:=Tryz.underlying319
 a167:=Tryz.isAgg319
 z167:=Tryz.sizeOf319
 v167:=Tryz.zeroValue319
 t168:=Tryz.underlying322
 a168:=Tryz.isAgg322
 z168:=Tryz.sizeOf322
 v168:=Tryz.zeroValue322
 t171:=Tryz.underlying361
 a171:=Tryz.isAgg361
 z171:=Tryz.sizeOf361
 v171:=Tryz.zeroValue361
 t173:=Tryz.underlying363
 a173:=Tryz.isAgg363
 z173:=Tryz.sizeOf363
 v173:=Tryz.zeroValue363
 t175:=Tryz.underlying355
 a175:=Tryz.isAgg355
 z175:=Tryz.sizeOf355
 v175:=Tryz.zeroValue355
 t210:=Tryz.underlying359
 a210:=Tryz.isAgg359
 z210:=Tryz.sizeOf359
 v210:=Tryz.zeroValue359
 t212:=Tryz.underlying396
 a212:=Tryz.isAgg396
 z212:=Tryz.sizeOf396
 v212:=Tryz.zeroValue396
 t213:=Tryz.underlying397
 a213:=Tryz.isAgg397
 z213:=Tryz.sizeOf397
 t232:=Tryz.underlying407
 a232:=Tryz.isAgg407
 z232:=Tryz.sizeOf407
 v232:=Tryz.zeroValue407
 t233:=Tryz.underlying408
 a233:=Tryz.isAgg408
 z233:=Tryz.sizeOf408
 v233:=Tryz.zeroValue408
 g15:=by kernel_rfl
 g16:=by kernel_rfl
 g17:=by kernel_rfl
 g18:=by kernel_rfl
 g19:=by kernel_rfl
 t80:=Tryz.underlying330
 a80:=Tryz.isAgg330
 z80:=Tryz.sizeOf330
 v80:=Tryz.zeroValue330
 i0:=by kernel_rfl
 i2:=by kernel_rfl
 i3:=by kernel_rfl
 i4:=by kernel_rfl
 i5:=by kernel_rfl
 i9:=by kernel_rfl
 i20:=by kernel_rfl
 i21:=by kernel_rfl
 i37:=by kernel_rfl
 i46:=by kernel_rfl
 i51:=by kernel_rfl
 i53:=by kernel_rfl
 i75:=by kernel_rfl
 i76:=by kernel_rfl
 i80:=by kernel_rfl
 i85:=by kernel_rfl
 i127:=by kernel_rfl
 i143:=by kernel_rfl
 i145:=by kernel_rfl
 i167:=by kernel_rfl
 i168:=by kernel_rfl
 i171:=by kernel_rfl
 i173:=by kernel_rfl
 i175:=by kernel_rfl
 i210:=by kernel_rfl
 i212:=by kernel_rfl
 i232:=by kernel_rfl
 i233:=by kernel_rfl
 m15:=by kernel_rfl
 m16:=by kernel_rfl
 m17:=by kernel_rfl
 m18:=by kernel_rfl
 m19:=by kernel_rfl
 c0:=by kernel_rfl
 c2:=by kernel_rfl
 c3:=by kernel_rfl
 c4:=by kernel_rfl
 c5:=by kernel_rfl
 c9:=by kernel_rfl
 c20:=by kernel_rfl
 c21:=by kernel_rfl
 c37:=by kernel_rfl
 c46:=by kernel_rfl
 c51:=by kernel_rfl
 c53:=by kernel_rfl
 c75:=by kernel_rfl
 c76:=by kernel_rfl
 c80:=by kernel_rfl
 c85:=by kernel_rfl
 c127:=by kernel_rfl
 c143:=by kernel_rfl
 c145:=by kernel_rfl
 c167:=by kernel_rfl
 c168:=by kernel_rfl
 c171:=by kernel_rfl
 c173:=by kernel_rfl
 c175:=by kernel_rfl
 c210:=by kernel_rfl
 c212:=by kernel_rfl
 c213:=by kernel_rfl
 c232:=by kernel_rfl
 c233:=by kernel_rfl }
theorem Vl:Go.Proofs.Builder.Extra Tryz.prog B8 where
 sizeBuilder:=by kernel_rfl
 liesBuilder:=by kernel_rfl
 t5:=Tryz.underlying5
 a5:=Tryz.isAgg5
 z5:=Tryz.sizeOf5
 v5:=Tryz.zeroValue5
 infoByte:=by kernel_rfl
 cellsByte:=by kernel_rfl
 sizeByte:=by kernel_rfl
 neB5:=by decide
end R
namespace R
open Go.RowKit
open D
def FldAll (P:Program) (T:TypeId):Nat->List (Nat×Nat)->Prop
 | _,[] =>True
 | i,q::l=>TF P T i q.1 q.2/\FldAll P T (i+1) l
theorem FldAll.get {P:Program} {T:TypeId} : ∀ {l:List (Nat×Nat)} {i:Nat},FldAll P T i l-> ∀f q,l[f]? =some q->TF P T (i+f) q.1 q.2
 | [],_,_,f,q,h=>by simp at h
 | x::l,i,⟨h1,h2⟩,f,q,h=>by
  cases f with
  | zero=>simp at h;subst h;exact h1
  | succ f =>
   have:=FldAll.get h2 f q (by simpa using h)
   rwa [show i+1+f=i+(f+1) from by omega] at this
section
variable {P:Program} {T:TypeId}
theorem yt {n b:Nat} {ty:Ty} {z:Value} {a:Bool} {c:Option (Option IntKind)} (h1:TI P T false 1) (o:ty.size=1) (g:TZ P T z 1 b) (d:z.cells=(zeroCells ty).toArray) (l:1<=b) (i:a=true->P.underlying T=some .bool) (j: ∀k,c=some k->P.underlying T=some (ikD k)):TDok P T ⟨false,1,none,ty,[],some b,none,a,none,none,c,false,none⟩:=
 ⟨h1,rfl,o,fun E h=>by simp at h,fun f q h=>by simp at h,fun p h=>by obtain rfl:=ae h;exact ⟨z,g,d,l⟩,fun r h=>by simp at h,i,(fun s h=>by cases h),(fun m h=>by cases h),j,(fun h=>by cases h),fun e h=>by cases h⟩
theorem px {E:TypeId} {t:Ty} (h1:TI P T false 1) (b:P.underlying T=some (.slice E)) (a:TZ P T (.slice none 0 0) 1 24):TDok P T ⟨false,1,some E,.sl E t,[],some 24,none,false,none,none,none,false,none⟩:=
 ⟨h1,rfl,rfl,fun i h=>by obtain rfl:=ae h;exact b,fun f q h=>by simp at h,fun g h=>by obtain rfl:=ae h;exact ⟨_,a,rfl,by decide⟩,fun c h=>by simp at h,(fun h=>by cases h),(fun d h=>by cases h),(fun m h=>by cases h),(fun k h=>by cases h),(fun h=>by cases h),fun e h=>by cases h⟩
theorem kP {n b:Nat} {ty:Ty} {fs a:List (Nat×Nat)} {z:Value} {c:Option (List (Option IntKind))} (h1:TI P T true n) (u:ty.size=n) (i:FldAll P T 0 fs) (d:TZ P T z n b) (t:z.cells=(zeroCells ty).toArray) (j:1<=b) (s:TB P T a) (l: ∀ks,c=some ks-> ∀w,Curq ks fun g o r=>EqT P T (.agg g.toArray) (.agg o.toArray) r w):TDok P T ⟨true,n,none,ty,fs,some b,some a,false,c,none,none,false,none⟩:=
 ⟨h1,rfl,u,fun E h=>by simp at h,fun f q h=>by have:=i.get f q h;rwa [Nat.zero_add] at this,fun v h=>by obtain rfl:=ae h;exact ⟨z,d,t,j⟩,fun p h=>by obtain rfl:=ae h;exact s,(fun h=>by cases h),l,(fun m h=>by cases h),(fun k h=>by cases h),(fun h=>by cases h),fun e h=>by cases h⟩
theorem CH {ty:Ty} {b:Nat} (h1:TI P T false 1) (c:ty.size=1) (a:TZ P T .nilFunc 1 b):TDok P T ⟨false,1,none,ty,[],none,none,false,none,none,none,true,none⟩:=
 ⟨h1,rfl,c,fun E h=>by simp at h,fun f q h=>by simp at h,(fun j h=>by cases h),(fun d h=>by cases h),(fun h=>by cases h),(fun i h=>by cases h),(fun g h=>by cases h),(fun k h=>by cases h),(fun _=>⟨b,a⟩),fun e h=>by cases h⟩
theorem ahv {m:MD} {ty:Ty} (h1:TI P T false 1) (b:ty.size=1) (a:MDok P T m):TDok P T ⟨false,1,none,ty,[],none,none,false,none,some m,none,false,none⟩:=
 ⟨h1,rfl,b,fun E h=>by simp at h,fun f q h=>by simp at h,(fun i h=>by cases h),(fun c h=>by cases h),(fun h=>by cases h),(fun g h=>by cases h),(fun d h=>by obtain rfl:=ae h;exact a),(fun k h=>by cases h),(fun h=>by cases h),fun e h=>by cases h⟩
theorem ahw {e E:TypeId} {u:Ty} (h1:TI P T false 1) (b:P.underlying T=some (.pointer e)) (a:TZ P T (.pointer none) 1 8):TDok P T ⟨false,1,none,.fro (.tree e E u),[],some 8,none,false,none,none,none,false,some e⟩:=
 ⟨h1,rfl,rfl,fun i h=>by simp at h,fun f q h=>by simp at h,fun g h=>by obtain rfl:=ae h;exact ⟨_,a,rfl,by decide⟩,fun c h=>by simp at h,(fun h=>by cases h),(fun d h=>by cases h),(fun m h=>by cases h),(fun k h=>by cases h),(fun h=>by cases h),fun j h=>by obtain rfl:=ae h;exact b⟩
end
end R
namespace D
open Go.RowKit
abbrev Yq4:Type:=(Int×Int×Int×Int)
abbrev Yq1:Type:=(List Yq4)
abbrev Yq2:Type:=(Int×(List Bool)×(List (List Int)))
abbrev xw:Type:=(Int×(Yq1)×Int)
abbrev Yq3:Type:=(List xw)
abbrev HQ:Type:=((List Int)×Yq1)
abbrev Yq5:Type:=(List HQ)
abbrev Yq6:Type:=(List (Int×Int))
abbrev Yq7:Type:=(Bool×Int×Int×Int×Int)
abbrev Yq8:Type:=(Int×Int×Int)
abbrev Yq9:Type:=((List Yq2)×Yq3)
abbrev Em:Type:=((Int×Bool)×Int×Int)
abbrev zF:Type:=(Out Int (Int×Int))
abbrev Xh:Type:=((List Int)×Int×Int×(List Int)×Bool)
abbrev Vm:Type:=(Out (List Int) ((List Int)×Int))
abbrev aeD:Type:=((Int×Yq5)×Yq9×(List Yq8)×ByteArray)
abbrev Xi:Type:=(Int×(List Yq2)×Yq3)
abbrev KN:Type:=(Yq6×Yq6)
def wP (a:List Int) (b:Int):Option Int:=
 if decide (i64.wrap (b - (a.length:Int))<0) then (some (-1)) else (some (i64.wrap (b - (a.length:Int))))
def yu (a:List Yq4) (b:Int):Option Int:=
 if decide (i64.wrap (b - (a.length:Int))<0) then (some (-1)) else (some (i64.wrap (b - (a.length:Int))))
def tx (a:(List Int)×Yq1) (d:Int):Option Int:=
 (wP a.1 d).bind fun b=>if decide (b<0) then (some (-1)) else ((yu a.2 b).bind fun c=>if decide (c<0) then (some (-1)) else (some c))
def mG (b:List HQ) (a:Int×Int):Option zF:=
 if decide (a.2<(b.length:Int)) then ((aK b a.2).bind fun c=>(tx (c.1,c.2) a.1).bind fun d=>if decide (d<0) then (some (.ret (-1))) else (some (.nxt (d,i64.wrap (a.2+1))))) else (some (.brk (a.1,a.2)))
def vu (a:List HQ) (b:Int):Option Int:=
 if decide (i64.wrap (b - (a.length:Int))<0) then (some (-1)) else (aJ (aj (mG a) aP (i64.wrap (b - (a.length:Int)),0)) (fun r=>some r) (fun c=>some c.1))
def pP (b:Int×Yq5) (c:Int):Option Int:=
 (vu b.2 c).bind fun a=>if decide (a<0) then (some (-1)) else (some a)
def yw (a:List Bool) (b:Int):Option Int:=
 if decide (i64.wrap (b - (a.length:Int))<0) then (some (-1)) else (some (i64.wrap (b - (a.length:Int))))
def ot (b:List (List Int)) (a:Int×Int):Option zF:=
 if decide (a.2<(b.length:Int)) then ((aK b a.2).bind fun d=>(wP d a.1).bind fun c=>if decide (c<0) then (some (.ret (-1))) else (some (.nxt (c,i64.wrap (a.2+1))))) else (some (.brk (a.1,a.2)))
def yx (a:List (List Int)) (b:Int):Option Int:=
 if decide (i64.wrap (b - (a.length:Int))<0) then (some (-1)) else (aJ (aj (ot a) aP (i64.wrap (b - (a.length:Int)),0)) (fun r=>some r) (fun c=>some c.1))
def mH (a:Int×(List Bool)×(List (List Int))) (d:Int):Option Int:=
 (yw a.2.1 d).bind fun b=>if decide (b<0) then (some (-1)) else ((yx a.2.2 b).bind fun c=>if decide (c<0) then (some (-1)) else (some c))
def iz (c:List Yq2) (a:Int×Int):Option zF:=
 if decide (a.2<(c.length:Int)) then ((aK c a.2).bind fun b=>(mH (b.1,b.2.1,b.2.2) a.1).bind fun d=>if decide (d<0) then (some (.ret (-1))) else (some (.nxt (d,i64.wrap (a.2+1))))) else (some (.brk (a.1,a.2)))
def py (a:List Yq2) (b:Int):Option Int:=
 if decide (i64.wrap (b - (a.length:Int))<0) then (some (-1)) else (aJ (aj (iz a) aP (i64.wrap (b - (a.length:Int)),0)) (fun r=>some r) (fun c=>some c.1))
def vv (a:List Yq4) (b:Int):Option Int:=
 if decide (i64.wrap (b - (a.length:Int))<0) then (some (-1)) else (some (i64.wrap (b - (a.length:Int))))
def wQ (b:Yq1) (c:Int):Option Int:=
 (vv b c).bind fun a=>if decide (a<0) then (some (-1)) else (some a)
def ln (b:Int×(Yq1)×Int) (c:Int):Option Int:=
 (wQ b.2.1 c).bind fun a=>if decide (a<0) then (some (-1)) else (some a)
def gy (c:List xw) (a:Int×Int):Option zF:=
 if decide (a.2<(c.length:Int)) then ((aK c a.2).bind fun b=>(ln (b.1,b.2.1,b.2.2) a.1).bind fun d=>if decide (d<0) then (some (.ret (-1))) else (some (.nxt (d,i64.wrap (a.2+1))))) else (some (.brk (a.1,a.2)))
def nP (a:List xw) (b:Int):Option Int:=
 if decide (i64.wrap (b - (a.length:Int))<0) then (some (-1)) else (aJ (aj (gy a) aP (i64.wrap (b - (a.length:Int)),0)) (fun r=>some r) (fun c=>some c.1))
def ou (a:(List Yq2)×Yq3) (d:Int):Option Int:=
 (py a.1 d).bind fun b=>if decide (b<0) then (some (-1)) else ((nP a.2 b).bind fun c=>if decide (c<0) then (some (-1)) else (some c))
def nQ (a:List Yq8) (b:Int):Option Int:=
 if decide (i64.wrap (b - (a.length:Int))<0) then (some (-1)) else (some (i64.wrap (b - (a.length:Int))))
def rA (a:(Int×Yq5)×Yq9×(List Yq8)×ByteArray) (e:Int):Option Int:=
 (pP (a.1.1,a.1.2) e).bind fun c=>if decide (c<0) then (some (-1)) else ((ou (a.2.1.1,a.2.1.2) c).bind fun d=>if decide (d<0) then (some (-1)) else ((nQ a.2.2.1 d).bind fun b=>if decide (b<0) then (some (-1)) else (if decide (i64.wrap (b - (a.2.2.2.size:Int))<0) then (some (-1)) else (some (i64.wrap (b - (a.2.2.2.size:Int)))))))
def pQ (b:List Int) (a:(List Int)×Int):Option Vm:=
 if decide (a.2<(b.length:Int)) then ((aK b a.2).bind fun c=>(aK a.1 a.2).bind fun d=>some (.nxt (a.1.set a.2.toNat c,i64.wrap (a.2+1)))) else (some (.brk (a.1,a.2)))
def sC (a:List Int):Option (List Int):=
 (mkI 8 (a.length:Int) (0:Int)).bind fun b=>aJ (aj (pQ a) aP (b,0)) (fun r=>some r) (fun c=>some c.1)
def wR (a:Int×Int×Int×Int):Option Yq4:=
 some (a.1,a.2.1,a.2.2.1,a.2.2.2)
def ox (d:List Yq4) (a:Yq1×Int):Option (Out Yq1 (Yq1×Int)):=
 if decide (a.2<(d.length:Int)) then ((aK d a.2).bind fun b=>(wR (b.1,b.2.1,b.2.2.1,b.2.2.2)).bind fun c=>(aK a.1 a.2).bind fun e=>some (.nxt (a.1.set a.2.toNat (c.1,c.2.1,c.2.2.1,c.2.2.2),i64.wrap (a.2+1)))) else (some (.brk (a.1,a.2)))
def tz (a:List Yq4):Option Yq1:=
 (mkI 32 (a.length:Int) ((0,0,0,0):Int×Int×Int×Int)).bind fun b=>aJ (aj (ox a) aP (b,0)) (fun r=>some r) (fun c=>some c.1)
def tC (a:(List Int)×Yq1):Option HQ:=
 (sC a.1).bind fun b=>(tz a.2).bind fun c=>some (b,c)
def mI (b:List HQ) (a:Yq5×Int):Option (Out Yq5 (Yq5×Int)):=
 if decide (a.2<(b.length:Int)) then ((aK b a.2).bind fun c=>(tC (c.1,c.2)).bind fun d=>(aK a.1 a.2).bind fun e=>some (.nxt (a.1.set a.2.toNat (d.1,d.2),i64.wrap (a.2+1)))) else (some (.brk (a.1,a.2)))
def rB (a:List HQ):Option Yq5:=
 (mkI 48 (a.length:Int) (([],[]):(List Int)×Yq1)).bind fun b=>aJ (aj (mI a) aP (b,0)) (fun r=>some r) (fun c=>some c.1)
def pR (a:Int×Yq5):Option (Int×Yq5):=
 (rB a.2).bind fun b=>some (a.1,b)
def oy (b:List Bool) (a:(List Bool)×Int):Option (Out (List Bool) ((List Bool)×Int)):=
 if decide (a.2<(b.length:Int)) then ((aK b a.2).bind fun c=>(aK a.1 a.2).bind fun d=>some (.nxt (a.1.set a.2.toNat c,i64.wrap (a.2+1)))) else (some (.brk (a.1,a.2)))
def tD (a:List Bool):Option (List Bool):=
 (mkI 1 (a.length:Int) (false:Bool)).bind fun b=>aJ (aj (oy a) aP (b,0)) (fun r=>some r) (fun c=>some c.1)
def oz (b:List (List Int)) (a:(List (List Int))×Int):Option (Out (List (List Int)) ((List (List Int))×Int)):=
 if decide (a.2<(b.length:Int)) then ((aK b a.2).bind fun c=>(sC c).bind fun d=>(aK a.1 a.2).bind fun e=>some (.nxt (a.1.set a.2.toNat d,i64.wrap (a.2+1)))) else (some (.brk (a.1,a.2)))
def tE (a:List (List Int)):Option (List (List Int)):=
 (mkI 24 (a.length:Int) ([] :List Int)).bind fun b=>aJ (aj (oz a) aP (b,0)) (fun r=>some r) (fun c=>some c.1)
def mJ (a:Int×(List Bool)×(List (List Int))):Option Yq2:=
 (tD a.2.1).bind fun b=>(tE a.2.2).bind fun c=>some (a.1,b,c)
def iA (d:List Yq2) (a:(List Yq2)×Int):Option (Out (List Yq2) ((List Yq2)×Int)):=
 if decide (a.2<(d.length:Int)) then ((aK d a.2).bind fun b=>(mJ (b.1,b.2.1,b.2.2)).bind fun c=>(aK a.1 a.2).bind fun e=>some (.nxt (a.1.set a.2.toNat (c.1,c.2.1,c.2.2),i64.wrap (a.2+1)))) else (some (.brk (a.1,a.2)))
def lp (a:List Yq2):Option (List Yq2):=
 (mkI 56 (a.length:Int) ((0,[],[]):Int×(List Bool)×(List (List Int)))).bind fun b=>aJ (aj (iA a) aP (b,0)) (fun r=>some r) (fun c=>some c.1)
def tF (a:Int×Int×Int×Int):Option Yq4:=
 some (a.1,a.2.1,a.2.2.1,a.2.2.2)
def mK (d:List Yq4) (a:Yq1×Int):Option (Out Yq1 (Yq1×Int)):=
 if decide (a.2<(d.length:Int)) then ((aK d a.2).bind fun b=>(tF (b.1,b.2.1,b.2.2.1,b.2.2.2)).bind fun c=>(aK a.1 a.2).bind fun e=>some (.nxt (a.1.set a.2.toNat (c.1,c.2.1,c.2.2.1,c.2.2.2),i64.wrap (a.2+1)))) else (some (.brk (a.1,a.2)))
def rC (a:List Yq4):Option Yq1:=
 (mkI 32 (a.length:Int) ((0,0,0,0):Int×Int×Int×Int)).bind fun b=>aJ (aj (mK a) aP (b,0)) (fun r=>some r) (fun c=>some c.1)
def wS (a:Yq1):Option Yq1:=
 (rC a).bind fun b=>some b
def lq (a:Int×(Yq1)×Int):Option xw:=
 (wS a.2.1).bind fun b=>some (a.1,b,a.2.2)
def gz (d:List xw) (a:Yq3×Int):Option (Out Yq3 (Yq3×Int)):=
 if decide (a.2<(d.length:Int)) then ((aK d a.2).bind fun b=>(lq (b.1,b.2.1,b.2.2)).bind fun c=>(aK a.1 a.2).bind fun e=>some (.nxt (a.1.set a.2.toNat (c.1,c.2.1,c.2.2),i64.wrap (a.2+1)))) else (some (.brk (a.1,a.2)))
def ko (a:List xw):Option Yq3:=
 (mkI 40 (a.length:Int) ((0,[],0):Int×(Yq1)×Int)).bind fun b=>aJ (aj (gz a) aP (b,0)) (fun r=>some r) (fun c=>some c.1)
def oA (a:(List Yq2)×Yq3):Option Yq9:=
 (lp a.1).bind fun b=>(ko a.2).bind fun c=>some (b,c)
def lr (a:Int×Int×Int):Option Yq8:=
 some (a.1,a.2.1,a.2.2)
def gA (d:List Yq8) (a:(List Yq8)×Int):Option (Out (List Yq8) ((List Yq8)×Int)):=
 if decide (a.2<(d.length:Int)) then ((aK d a.2).bind fun b=>(lr (b.1,b.2.1,b.2.2)).bind fun c=>(aK a.1 a.2).bind fun e=>some (.nxt (a.1.set a.2.toNat (c.1,c.2.1,c.2.2),i64.wrap (a.2+1)))) else (some (.brk (a.1,a.2)))
def kp (a:List Yq8):Option (List Yq8):=
 (mkI 24 (a.length:Int) ((0,0,0):Int×Int×Int)).bind fun b=>aJ (aj (gA a) aP (b,0)) (fun r=>some r) (fun c=>some c.1)
def jG (a:(Int×Yq5)×Yq9×(List Yq8)×ByteArray):Option aeD:=
 (pR (a.1.1,a.1.2)).bind fun b=>(oA (a.2.1.1,a.2.1.2)).bind fun c=>(kp a.2.2.1).bind fun d=>some ((b.1,b.2),(c.1,c.2),d,a.2.2.2)
def pS (b:List Int) (c:List Int) (a:Int):Option (Out Bool Int):=
 if decide (a<(b.length:Int)) then ((aK b a).bind fun d=>(aK c a).bind fun e=>if d !=e then (some (.ret false)) else (some (.nxt (i64.wrap (a+1))))) else (some (.brk a))
def wT (a:List Int) (b:List Int):Option Bool:=
 if (a.length:Int) !=(b.length:Int) then (some false) else (aJ (aj (pS a b) aP 0) (fun r=>some r) (fun c=>some true))
def wU (a:Int×Int×Int×Int) (b:Int×Int×Int×Int):Option Bool:=
 if a.1 !=b.1 then (some false) else (if a.2.1 !=b.2.1 then (some false) else (if a.2.2.1 !=b.2.2.1 then (some false) else (if a.2.2.2 !=b.2.2.2 then (some false) else (some true))))
def oB (d:List Yq4) (e:List Yq4) (a:Int):Option (Out Bool Int):=
 if decide (a<(d.length:Int)) then ((aK d a).bind fun b=>(aK e a).bind fun c=>(wU (b.1,b.2.1,b.2.2.1,b.2.2.2) (c.1,c.2.1,c.2.2.1,c.2.2.2)).bind fun f=>if f then (some (.nxt (i64.wrap (a+1)))) else (some (.ret false))) else (some (.brk a))
def yy (a:List Yq4) (b:List Yq4):Option Bool:=
 if (a.length:Int) !=(b.length:Int) then (some false) else (aJ (aj (oB a b) aP 0) (fun r=>some r) (fun c=>some true))
def tG (a:(List Int)×Yq1) (b:(List Int)×Yq1):Option Bool:=
 (wT a.1 b.1).bind fun c=>if c then ((yy a.2 b.2).bind fun d=>if d then (some true) else (some false)) else (some false)
def mL (b:List HQ) (e:List HQ) (a:Int):Option (Out Bool Int):=
 if decide (a<(b.length:Int)) then ((aK b a).bind fun c=>(aK e a).bind fun d=>(tG (c.1,c.2) (d.1,d.2)).bind fun f=>if f then (some (.nxt (i64.wrap (a+1)))) else (some (.ret false))) else (some (.brk a))
def vx (a:List HQ) (b:List HQ):Option Bool:=
 if (a.length:Int) !=(b.length:Int) then (some false) else (aJ (aj (mL a b) aP 0) (fun r=>some r) (fun c=>some true))
def pT (a:Int×Yq5) (b:Int×Yq5):Option Bool:=
 if a.1 !=b.1 then (some false) else ((vx a.2 b.2).bind fun c=>if c then (some true) else (some false))
def oC (b:List Bool) (c:List Bool) (a:Int):Option (Out Bool Int):=
 if decide (a<(b.length:Int)) then ((aK b a).bind fun d=>(aK c a).bind fun e=>if d !=e then (some (.ret false)) else (some (.nxt (i64.wrap (a+1))))) else (some (.brk a))
def yz (a:List Bool) (b:List Bool):Option Bool:=
 if (a.length:Int) !=(b.length:Int) then (some false) else (aJ (aj (oC a b) aP 0) (fun r=>some r) (fun c=>some true))
def oD (b:List (List Int)) (c:List (List Int)) (a:Int):Option (Out Bool Int):=
 if decide (a<(b.length:Int)) then ((aK b a).bind fun d=>(aK c a).bind fun e=>(wT d e).bind fun f=>if f then (some (.nxt (i64.wrap (a+1)))) else (some (.ret false))) else (some (.brk a))
def yA (a:List (List Int)) (b:List (List Int)):Option Bool:=
 if (a.length:Int) !=(b.length:Int) then (some false) else (aJ (aj (oD a b) aP 0) (fun r=>some r) (fun c=>some true))
def mM (a:Int×(List Bool)×(List (List Int))) (b:Int×(List Bool)×(List (List Int))):Option Bool:=
 if a.1 !=b.1 then (some false) else ((yz a.2.1 b.2.1).bind fun c=>if c then ((yA a.2.2 b.2.2).bind fun d=>if d then (some true) else (some false)) else (some false))
def iB (d:List Yq2) (e:List Yq2) (a:Int):Option (Out Bool Int):=
 if decide (a<(d.length:Int)) then ((aK d a).bind fun b=>(aK e a).bind fun c=>(mM (b.1,b.2.1,b.2.2) (c.1,c.2.1,c.2.2)).bind fun f=>if f then (some (.nxt (i64.wrap (a+1)))) else (some (.ret false))) else (some (.brk a))
def pz (a:List Yq2) (b:List Yq2):Option Bool:=
 if (a.length:Int) !=(b.length:Int) then (some false) else (aJ (aj (iB a b) aP 0) (fun r=>some r) (fun c=>some true))
def tH (a:Int×Int×Int×Int) (b:Int×Int×Int×Int):Option Bool:=
 if a.1 !=b.1 then (some false) else (if a.2.1 !=b.2.1 then (some false) else (if a.2.2.1 !=b.2.2.1 then (some false) else (if a.2.2.2 !=b.2.2.2 then (some false) else (some true))))
def mN (d:List Yq4) (e:List Yq4) (a:Int):Option (Out Bool Int):=
 if decide (a<(d.length:Int)) then ((aK d a).bind fun b=>(aK e a).bind fun c=>(tH (b.1,b.2.1,b.2.2.1,b.2.2.2) (c.1,c.2.1,c.2.2.1,c.2.2.2)).bind fun f=>if f then (some (.nxt (i64.wrap (a+1)))) else (some (.ret false))) else (some (.brk a))
def vy (a:List Yq4) (b:List Yq4):Option Bool:=
 if (a.length:Int) !=(b.length:Int) then (some false) else (aJ (aj (mN a b) aP 0) (fun r=>some r) (fun c=>some true))
def wV (a:Yq1) (b:Yq1):Option Bool:=
 (vy a b).bind fun c=>if c then (some true) else (some false)
def lu (a:Int×(Yq1)×Int) (b:Int×(Yq1)×Int):Option Bool:=
 if a.1 !=b.1 then (some false) else ((wV a.2.1 b.2.1).bind fun c=>if c then (if a.2.2 !=b.2.2 then (some false) else (some true)) else (some false))
def gB (d:List xw) (e:List xw) (a:Int):Option (Out Bool Int):=
 if decide (a<(d.length:Int)) then ((aK d a).bind fun b=>(aK e a).bind fun c=>(lu (b.1,b.2.1,b.2.2) (c.1,c.2.1,c.2.2)).bind fun f=>if f then (some (.nxt (i64.wrap (a+1)))) else (some (.ret false))) else (some (.brk a))
def nR (a:List xw) (b:List xw):Option Bool:=
 if (a.length:Int) !=(b.length:Int) then (some false) else (aJ (aj (gB a b) aP 0) (fun r=>some r) (fun c=>some true))
def oE (a:(List Yq2)×Yq3) (b:(List Yq2)×Yq3):Option Bool:=
 (pz a.1 b.1).bind fun c=>if c then ((nR a.2 b.2).bind fun d=>if d then (some true) else (some false)) else (some false)
def lx (a:Int×Int×Int) (b:Int×Int×Int):Option Bool:=
 if a.1 !=b.1 then (some false) else (if a.2.1 !=b.2.1 then (some false) else (if a.2.2 !=b.2.2 then (some false) else (some true)))
def gC (d:List Yq8) (e:List Yq8) (a:Int):Option (Out Bool Int):=
 if decide (a<(d.length:Int)) then ((aK d a).bind fun b=>(aK e a).bind fun c=>(lx (b.1,b.2.1,b.2.2) (c.1,c.2.1,c.2.2)).bind fun f=>if f then (some (.nxt (i64.wrap (a+1)))) else (some (.ret false))) else (some (.brk a))
def nS (a:List Yq8) (b:List Yq8):Option Bool:=
 if (a.length:Int) !=(b.length:Int) then (some false) else (aJ (aj (gC a b) aP 0) (fun r=>some r) (fun c=>some true))
def jH (a:(Int×Yq5)×Yq9×(List Yq8)×ByteArray) (b:(Int×Yq5)×Yq9×(List Yq8)×ByteArray):Option Bool:=
 (pT (a.1.1,a.1.2) (b.1.1,b.1.2)).bind fun c=>if c then ((oE (a.2.1.1,a.2.1.2) (b.2.1.1,b.2.1.2)).bind fun d=>if d then ((nS a.2.2.1 b.2.2.1).bind fun e=>if e then (if a.2.2.2 !=b.2.2.2 then (some false) else (some true)) else (some false)) else (some false)) else (some false)
def mO (a:(List Int)×Int×Int):Option (Out (Int×(List Int)) ((List Int)×Int×Int)):=
 if decide (a.2.2<(a.1.length:Int)) then ((aK a.1 a.2.2).bind fun b=>some (.nxt (a.1.set a.2.2.toNat a.2.1,i64.wrap (a.2.1+1),i64.wrap (a.2.2+1)))) else (some (.brk (a.1,a.2.1,a.2.2)))
def oY (b:List Int) (c:Int):Option (Int×(List Int)):=
 aJ (aj (mO) aP (b,c,0)) (fun r=>some r) (fun a=>some (a.2.1,a.1))
def lz (a:Yq1×Int×Int):Option (Out (Int×Yq1) (Yq1×Int×Int)):=
 if decide (a.2.2<(a.1.length:Int)) then ((aK a.1 a.2.2).bind fun b=>(aK (a.1.set a.2.2.toNat (a.2.1,b.2.1,b.2.2.1,b.2.2.2)) a.2.2).bind fun c=>(aK ((a.1.set a.2.2.toNat (a.2.1,b.2.1,b.2.2.1,b.2.2.2)).set a.2.2.toNat (c.1,i64.wrap (a.2.1+1),c.2.2.1,c.2.2.2)) a.2.2).bind fun d=>(aK (((a.1.set a.2.2.toNat (a.2.1,b.2.1,b.2.2.1,b.2.2.2)).set a.2.2.toNat (c.1,i64.wrap (a.2.1+1),c.2.2.1,c.2.2.2)).set a.2.2.toNat (d.1,d.2.1,i64.wrap ((i64.wrap (a.2.1+1))+1),d.2.2.2)) a.2.2).bind fun e=>some (.nxt ((((a.1.set a.2.2.toNat (a.2.1,b.2.1,b.2.2.1,b.2.2.2)).set a.2.2.toNat (c.1,i64.wrap (a.2.1+1),c.2.2.1,c.2.2.2)).set a.2.2.toNat (d.1,d.2.1,i64.wrap ((i64.wrap (a.2.1+1))+1),d.2.2.2)).set a.2.2.toNat (e.1,e.2.1,e.2.2.1,i64.wrap ((i64.wrap ((i64.wrap (a.2.1+1))+1))+1)),i64.wrap ((i64.wrap ((i64.wrap ((i64.wrap (a.2.1+1))+1))+1))+1),i64.wrap (a.2.2+1)))) else (some (.brk (a.1,a.2.1,a.2.2)))
def pU (b:List Yq4) (c:Int):Option (Int×Yq1):=
 aJ (aj (lz) aP (b,c,0)) (fun r=>some r) (fun a=>some (a.2.1,a.1))
def kt (a:Yq5×Int×Int):Option (Out (Int×Yq5) (Yq5×Int×Int)):=
 if decide (a.2.2<(a.1.length:Int)) then ((aK a.1 a.2.2).bind fun b=>(oY b.1 a.2.1).bind fun c=>(aK (a.1.set a.2.2.toNat (c.2,b.2)) a.2.2).bind fun d=>(pU d.2 c.1).bind fun e=>some (.nxt ((a.1.set a.2.2.toNat (c.2,b.2)).set a.2.2.toNat (d.1,e.2),e.1,i64.wrap (a.2.2+1)))) else (some (.brk (a.1,a.2.1,a.2.2)))
def oF (b:List HQ) (c:Int):Option (Int×Yq5):=
 aJ (aj (kt) aP (b,c,0)) (fun r=>some r) (fun a=>some (a.2.1,a.1))
def mP (a:Int×Yq5) (c:Int):Option (Int×(Int×Yq5)):=
 (oF a.2 c).bind fun b=>some (b.1,(a.1,b.2))
def lA (a:(List Bool)×Int×Int):Option (Out (Int×(List Bool)) ((List Bool)×Int×Int)):=
 if decide (a.2.2<(a.1.length:Int)) then ((aK a.1 a.2.2).bind fun b=>some (.nxt (a.1.set a.2.2.toNat ((Int.tmod a.2.1 3)==0),i64.wrap (a.2.1+1),i64.wrap (a.2.2+1)))) else (some (.brk (a.1,a.2.1,a.2.2)))
def pV (b:List Bool) (c:Int):Option (Int×(List Bool)):=
 aJ (aj (lA) aP (b,c,0)) (fun r=>some r) (fun a=>some (a.2.1,a.1))
def lB (a:(List (List Int))×Int×Int):Option (Out (Int×(List (List Int))) ((List (List Int))×Int×Int)):=
 if decide (a.2.2<(a.1.length:Int)) then ((aK a.1 a.2.2).bind fun c=>(oY c a.2.1).bind fun b=>some (.nxt (a.1.set a.2.2.toNat b.2,b.1,i64.wrap (a.2.2+1)))) else (some (.brk (a.1,a.2.1,a.2.2)))
def pW (b:List (List Int)) (c:Int):Option (Int×(List (List Int))):=
 aJ (aj (lB) aP (b,c,0)) (fun r=>some r) (fun a=>some (a.2.1,a.1))
def fH (a:(List Yq2)×Int×Int):Option (Out (Int×(List Yq2)) ((List Yq2)×Int×Int)):=
 if decide (a.2.2<(a.1.length:Int)) then ((aK a.1 a.2.2).bind fun b=>(aK (a.1.set a.2.2.toNat (a.2.1,b.2.1,b.2.2)) a.2.2).bind fun c=>(pV c.2.1 (i64.wrap (a.2.1+1))).bind fun d=>(aK ((a.1.set a.2.2.toNat (a.2.1,b.2.1,b.2.2)).set a.2.2.toNat (c.1,d.2,c.2.2)) a.2.2).bind fun e=>(pW e.2.2 d.1).bind fun f=>some (.nxt (((a.1.set a.2.2.toNat (a.2.1,b.2.1,b.2.2)).set a.2.2.toNat (c.1,d.2,c.2.2)).set a.2.2.toNat (e.1,e.2.1,f.2),f.1,i64.wrap (a.2.2+1)))) else (some (.brk (a.1,a.2.1,a.2.2)))
def jn (b:List Yq2) (c:Int):Option (Int×(List Yq2)):=
 aJ (aj (fH) aP (b,c,0)) (fun r=>some r) (fun a=>some (a.2.1,a.1))
def ku (a:Yq1×Int×Int):Option (Out (Int×Yq1) (Yq1×Int×Int)):=
 if decide (a.2.2<(a.1.length:Int)) then ((aK a.1 a.2.2).bind fun b=>(aK (a.1.set a.2.2.toNat (a.2.1,b.2.1,b.2.2.1,b.2.2.2)) a.2.2).bind fun c=>(aK ((a.1.set a.2.2.toNat (a.2.1,b.2.1,b.2.2.1,b.2.2.2)).set a.2.2.toNat (c.1,i64.wrap (a.2.1+1),c.2.2.1,c.2.2.2)) a.2.2).bind fun d=>(aK (((a.1.set a.2.2.toNat (a.2.1,b.2.1,b.2.2.1,b.2.2.2)).set a.2.2.toNat (c.1,i64.wrap (a.2.1+1),c.2.2.1,c.2.2.2)).set a.2.2.toNat (d.1,d.2.1,i64.wrap ((i64.wrap (a.2.1+1))+1),d.2.2.2)) a.2.2).bind fun e=>some (.nxt ((((a.1.set a.2.2.toNat (a.2.1,b.2.1,b.2.2.1,b.2.2.2)).set a.2.2.toNat (c.1,i64.wrap (a.2.1+1),c.2.2.1,c.2.2.2)).set a.2.2.toNat (d.1,d.2.1,i64.wrap ((i64.wrap (a.2.1+1))+1),d.2.2.2)).set a.2.2.toNat (e.1,e.2.1,e.2.2.1,i64.wrap ((i64.wrap ((i64.wrap (a.2.1+1))+1))+1)),i64.wrap ((i64.wrap ((i64.wrap ((i64.wrap (a.2.1+1))+1))+1))+1),i64.wrap (a.2.2+1)))) else (some (.brk (a.1,a.2.1,a.2.2)))
def oG (b:List Yq4) (c:Int):Option (Int×Yq1):=
 aJ (aj (ku) aP (b,c,0)) (fun r=>some r) (fun a=>some (a.2.1,a.1))
def fl (a:Yq3×Int×Int):Option (Out (Int×Yq3) (Yq3×Int×Int)):=
 if decide (a.2.2<(a.1.length:Int)) then ((aK a.1 a.2.2).bind fun b=>(aK (a.1.set a.2.2.toNat (a.2.1,b.2.1,b.2.2)) a.2.2).bind fun c=>(oG c.2.1 (i64.wrap (a.2.1+1))).bind fun d=>(aK ((a.1.set a.2.2.toNat (a.2.1,b.2.1,b.2.2)).set a.2.2.toNat (c.1,(d.2),c.2.2)) a.2.2).bind fun e=>some (.nxt (((a.1.set a.2.2.toNat (a.2.1,b.2.1,b.2.2)).set a.2.2.toNat (c.1,(d.2),c.2.2)).set a.2.2.toNat (e.1,e.2.1,d.1),i64.wrap (d.1+1),i64.wrap (a.2.2+1)))) else (some (.brk (a.1,a.2.1,a.2.2)))
def iC (b:List xw) (c:Int):Option (Int×Yq3):=
 aJ (aj (fl) aP (b,c,0)) (fun r=>some r) (fun a=>some (a.2.1,a.1))
def lC (a:(List Yq2)×Yq3) (d:Int):Option (Int×Yq9):=
 (jn a.1 d).bind fun b=>(iC a.2 b.1).bind fun c=>some (c.1,(b.2,c.2))
def fm (a:(List Yq8)×Int×Int):Option (Out (Int×(List Yq8)) ((List Yq8)×Int×Int)):=
 if decide (a.2.2<(a.1.length:Int)) then ((aK a.1 a.2.2).bind fun b=>(aK (a.1.set a.2.2.toNat (a.2.1,b.2.1,b.2.2)) a.2.2).bind fun c=>(aK ((a.1.set a.2.2.toNat (a.2.1,b.2.1,b.2.2)).set a.2.2.toNat (c.1,i64.wrap (a.2.1+1),c.2.2)) a.2.2).bind fun d=>some (.nxt (((a.1.set a.2.2.toNat (a.2.1,b.2.1,b.2.2)).set a.2.2.toNat (c.1,i64.wrap (a.2.1+1),c.2.2)).set a.2.2.toNat (d.1,d.2.1,i64.wrap ((i64.wrap (a.2.1+1))+1)),i64.wrap ((i64.wrap ((i64.wrap (a.2.1+1))+1))+1),i64.wrap (a.2.2+1)))) else (some (.brk (a.1,a.2.1,a.2.2)))
def iD (b:List Yq8) (c:Int):Option (Int×(List Yq8)):=
 aJ (aj (fm) aP (b,c,0)) (fun r=>some r) (fun a=>some (a.2.1,a.1))
def gi (a:(Int×Yq5)×Yq9×(List Yq8)×ByteArray) (e:Int):Option (Int×aeD):=
 (mP (a.1.1,a.1.2) e).bind fun c=>(lC (a.2.1.1,a.2.1.2) c.1).bind fun b=>(iD a.2.2.1 b.1).bind fun d=>some (d.1,((a.1.1,c.2.2),(b.2.1,b.2.2),d.2,a.2.2.2))
def cn (a:Int) (b:Int) (c:Int):Option Bool:=
 if decide (a≥b) then (some (decide (a<=c))) else (some false)
def HS (b:(List Int)×Yq1) (a:Int×Int×Int×Int):Option Bool:=
 (cn a.1 1 99).bind fun c=>if c then ((cn a.2.1 0 (i64.wrap ((b.1.length:Int) - 1))).bind fun d=>if d then ((cn a.2.2.1 0 (i64.wrap ((b.1.length:Int) - 1))).bind fun e=>if e then ((cn a.2.2.2 0 2).bind fun f=>some f) else (some false)) else (some false)) else (some false)
def qD (b:(List Int)×Yq1) (a:Int):Option (Out Bool Int):=
 if decide (a<(b.1.length:Int)) then ((aK b.1 a).bind fun c=>(cn c 0 2).bind fun d=>if d then (some (.nxt (i64.wrap (a+1)))) else (some (.ret false))) else (some (.brk a))
def lY (b:(List Int)×Yq1) (a:Int):Option (Out Bool Int):=
 if decide (a<(b.2.length:Int)) then ((aK b.2 a).bind fun c=>(HS (b.1,b.2) (c.1,c.2.1,c.2.2.1,c.2.2.2)).bind fun d=>if d then (if decide (a>0) then ((aK b.2 (i64.wrap (a - 1))).bind fun e=>(aK b.2 a).bind fun f=>if decide (e.1≥f.1) then (some (.ret false)) else (some (.nxt (i64.wrap (a+1))))) else (some (.nxt (i64.wrap (a+1))))) else (some (.ret false))) else (some (.brk a))
def bS (a:(List Int)×Yq1):Option Bool:=
 aJ (aj (qD a) aP 0) (fun r=>some r) (fun c=>aJ (aj (lY a) aP 0) (fun r=>some r) (fun d=>(cn (a.1.length:Int) 1 5).bind fun b=>if b then (some (decide ((a.2.length:Int)<=12))) else (some false)))
def rD (b:List Int) (c:List Int) (a:Int):Option (Out Int Int):=
 if decide (a<(b.length:Int)) then (if decide (a<(c.length:Int)) then ((aK b a).bind fun d=>(aK c a).bind fun e=>if decide (d<e) then (some (.ret (-1))) else ((aK b a).bind fun f=>(aK c a).bind fun g=>if decide (f>g) then (some (.ret 1)) else (some (.nxt (i64.wrap (a+1)))))) else (some (.brk a))) else (some (.brk a))
def qF (a:List Int) (b:List Int):Option Int:=
 aJ (aj (rD a b) aP 0) (fun r=>some r) (fun c=>if decide ((a.length:Int)<(b.length:Int)) then (some (-1)) else (if decide ((a.length:Int)>(b.length:Int)) then (some 1) else (some 0)))
def fI (b:Int×Yq5) (a:Int):Option (Out Bool Int):=
 if decide (a<(b.2.length:Int)) then ((aK b.2 a).bind fun c=>(bS (c.1,c.2)).bind fun d=>if d then ((aK b.2 a).bind fun e=>(aK b.2 0).bind fun f=>(qF e.1 f.1).bind fun g=>if g !=0 then (some (.ret false)) else (some (.nxt (i64.wrap (a+1))))) else (some (.ret false))) else (some (.brk a))
def m_s_IsValidHistory (a:Int×Yq5):Option Bool:=
 aJ (aj (fI a) aP 0) (fun r=>some r) (fun d=>(cn (a.2.length:Int) 1 8).bind fun b=>if b then ((cn a.1 1 (i64.wrap ((i64.wrap (999 - (a.2.length:Int)))+1))).bind fun c=>some c) else (some false))
def jd (a:List Yq4):Option Yq1:=
 (cr 32 ([] :List Yq4) a).bind fun b=>some b
def oZ (a:Int):Option Bool:=
 (cn a 0 8).bind fun b=>some b
def qG (a:Int×Int×Int×Int):Option Int:=
 Option.bind ((if a.1==1 then (some (a.1==1)) else (some (a.1==2)):Option Bool)) (fun b=>if b then (if a.2.1 !=0 then (some (-1)) else (if a.2.2.1 !=0 then (some (-1)) else (if a.2.2.2 !=0 then (some (-1)) else (some 0)))) else (if a.1==3 then ((oZ a.2.1).bind fun c=>if c then (if a.2.2.1 !=0 then (some (-1)) else (if a.2.2.2 !=0 then (some (-1)) else (some 0))) else (some (-1))) else (Option.bind ((if a.1==4 then (some (a.1==4)) else (some (a.1==5)):Option Bool)) (fun d=>if d then (if a.2.1 !=0 then (some (-1)) else (if a.2.2.1 !=0 then (some (-1)) else (if a.2.2.2 !=0 then (some (-1)) else (some 2)))) else (if a.1==6 then (if a.2.1 !=0 then (some (-1)) else (if a.2.2.1 !=0 then (some (-1)) else (if a.2.2.2 !=0 then (some (-1)) else (some 1)))) else (if a.1==7 then (if a.2.1 !=0 then (some (-1)) else ((cn a.2.2.2 1 3).bind fun e=>if e then ((cn a.2.2.1 0 a.2.2.2).bind fun f=>if f then (some 1) else (some (-1))) else (some (-1)))) else (some (-1))))))))
def tI (d:Yq1) (a:Int×Int):Option (Out Bool (Int×Int)):=
 if decide (a.2<(d.length:Int)) then ((aK d a.2).bind fun b=>(qG (b.1,b.2.1,b.2.2.1,b.2.2.2)).bind fun c=>if decide (c<0) then (some (.ret false)) else (if decide (c>a.1) then (some (.ret false)) else (some (.nxt (i64.wrap ((i64.wrap (a.1 - c))+1),i64.wrap (a.2+1)))))) else (some (.brk (a.1,a.2)))
def wW (a:Yq1):Option Bool:=
 aJ (aj (tI a) aP (0,0)) (fun r=>some r) (fun b=>some (b.1==1))
def mQ (a:Yq1):Option Bool:=
 if decide ((a.length:Int)<=24) then ((wW a).bind fun b=>some b) else (some false)
def oH (c:List Yq4) (a:Int×Int):Option zF:=
 if decide (a.1>0) then ((aK c (i64.wrap (a.2 - 1))).bind fun b=>(qG (b.1,b.2.1,b.2.2.1,b.2.2.2)).bind fun d=>some (.nxt (i64.wrap ((i64.wrap (a.1 - 1))+d),i64.wrap (a.2 - 1)))) else (some (.brk (a.1,a.2)))
def jI (a:List Yq4):Option Int:=
 aJ (aj (oH a) aP (1,(a.length:Int))) (fun r=>some r) (fun b=>some b.2)
def eX:Nat->Yq1->Option Int
 | 0,_=>none
 | n+1,p0l =>
  (aK p0l (i64.wrap ((p0l.length:Int) - 1))).bind fun a=>Option.bind ((if a.1==4 then (some (a.1==4)) else (some (a.1==5)):Option Bool)) (fun c=>if c then ((chk (And (0<=(i64.wrap ((p0l.length:Int) - 1))) ((i64.wrap ((p0l.length:Int) - 1))<=(p0l.length:Int)))).bind fun _=>(jI (p0l.take ((i64.wrap ((p0l.length:Int) - 1)).toNat))).bind fun b=>(chk (And (0<=b) (b<=(p0l.length:Int)))).bind fun _=>((eX n) (p0l.take b.toNat)).bind fun d=>(chk (And (0<=b) (And (b<=(i64.wrap ((p0l.length:Int) - 1))) ((i64.wrap ((p0l.length:Int) - 1))<=(p0l.length:Int))))).bind fun _=>((eX n) ((p0l.take ((i64.wrap ((p0l.length:Int) - 1)).toNat)).drop b.toNat)).bind fun e=>some (Min.min 100000 (i64.wrap ((i64.wrap (d+e))+1)))) else (if a.1==6 then ((chk (And (0<=(i64.wrap ((p0l.length:Int) - 1))) ((i64.wrap ((p0l.length:Int) - 1))<=(p0l.length:Int)))).bind fun _=>((eX n) (p0l.take ((i64.wrap ((p0l.length:Int) - 1)).toNat))).bind fun f=>some (Min.min 100000 (i64.wrap (f+1)))) else (if a.1==7 then ((chk (And (0<=(i64.wrap ((p0l.length:Int) - 1))) ((i64.wrap ((p0l.length:Int) - 1))<=(p0l.length:Int)))).bind fun _=>((eX n) (p0l.take ((i64.wrap ((p0l.length:Int) - 1)).toNat))).bind fun g=>some (Min.min 100000 (i64.wrap ((i64.wrap ((i64.wrap (g+3))*a.2.2.2))+1)))) else (some 1))))
def nT (b:Yq1) (c:Yq1) (a:Int×Int×Int×Int):Option Yq1:=
 (jd b).bind fun d=>(cr 32 d c).bind fun e=>(cr 32 e ([(a.1,a.2.1,a.2.2.1,a.2.2.2)])).bind fun f=>some f
def wX (a:Int):Option Yq1:=
 some ([(a,0,0,0)])
def o0:Nat->Yq1->Int->Int->Option Yq1 
 | 0,_,_,_=>none
 | n+1,p0e,p1low,p2high =>
  if p2high==0 then ((wX 2).bind fun b=>some b) else (((o0 n) p0e (Max.max 0 (i64.wrap (p1low - 1))) (i64.wrap (p2high - 1))).bind fun c=>(nT p0e c (4,0,0,0)).bind fun a=>if decide (p1low>0) then (some a) else ((wX 2).bind fun d=>(nT a d (5,0,0,0)).bind fun e=>some e))
def dw:Nat->Yq1->Option Yq1 
 | 0,_=>none
 | n+1,p0l =>
  (aK p0l (i64.wrap ((p0l.length:Int) - 1))).bind fun a=>Option.bind ((if a.1==4 then (some (a.1==4)) else (some (a.1==5)):Option Bool)) (fun c=>if c then ((chk (And (0<=(i64.wrap ((p0l.length:Int) - 1))) ((i64.wrap ((p0l.length:Int) - 1))<=(p0l.length:Int)))).bind fun _=>(jI (p0l.take ((i64.wrap ((p0l.length:Int) - 1)).toNat))).bind fun b=>(chk (And (0<=b) (b<=(p0l.length:Int)))).bind fun _=>((dw n) (p0l.take b.toNat)).bind fun d=>(chk (And (0<=b) (And (b<=(i64.wrap ((p0l.length:Int) - 1))) ((i64.wrap ((p0l.length:Int) - 1))<=(p0l.length:Int))))).bind fun _=>((dw n) ((p0l.take ((i64.wrap ((p0l.length:Int) - 1)).toNat)).drop b.toNat)).bind fun e=>(nT d e (a.1,a.2.1,a.2.2.1,a.2.2.2)).bind fun f=>some f) else (if a.1==6 then ((chk (And (0<=(i64.wrap ((p0l.length:Int) - 1))) ((i64.wrap ((p0l.length:Int) - 1))<=(p0l.length:Int)))).bind fun _=>((dw n) (p0l.take ((i64.wrap ((p0l.length:Int) - 1)).toNat))).bind fun g=>(nT g ([] :List Yq4) (a.1,a.2.1,a.2.2.1,a.2.2.2)).bind fun h=>some h) else (if a.1==7 then ((chk (And (0<=(i64.wrap ((p0l.length:Int) - 1))) ((i64.wrap ((p0l.length:Int) - 1))<=(p0l.length:Int)))).bind fun _=>((dw n) (p0l.take ((i64.wrap ((p0l.length:Int) - 1)).toNat))).bind fun i=>(o0 iU i a.2.2.1 a.2.2.2).bind fun j=>some j) else (some ([(a.1,a.2.1,a.2.2.1,a.2.2.2)])))))
def oJ (a:Yq1):Option ((Yq1)×Bool):=
 (mQ a).bind fun c=>if c then ((eX iU a).bind fun d=>if decide (d>5000) then (some ([],false)) else ((dw iU a).bind fun b=>if decide ((b.length:Int)>400) then (some ([],false)) else (some (b,true)))) else (some ([],false))
def kQ (b:Int) (c:Int) (a:Int×List Int):Option (Out Xh (Int×List Int)):=
 if decide (a.1<(a.2.length:Int)) then (Option.bind (((chk (0<=a.1)).bind fun _=>if (wE (rq b a.1) 1)==1 then ((aK a.2 a.1).bind fun d=>(aK a.2 a.1).bind fun f=>some (a.2.set a.1.toNat (orI d c))) else (some a.2):Option (List Int))) (fun e=>some (.nxt (i64.wrap (a.1+1),e)))) else (some (.brk (a.1,a.2)))
def qH (a:(List Int)×Int×Int×(List Int)×Bool) (b:Int) (c:Int):Option Xh:=
 aJ (aj (kQ b c) aP (0,a.2.2.2.1)) (fun d=>some d) (fun e=>some (a.1,a.2.1,a.2.2.1,e.2,a.2.2.2.2))
def dW:Nat->Xh->Yq1->Option ((Bool×Int×Int)×(List Int)×Int×Int×(List Int)×Bool)
 | 0,_,_=>none
 | n+1,p0,p1 =>
  (aK p1 (i64.wrap ((p1.length:Int) - 1))).bind fun g=>if g.1==2 then (some ((true,0,0),p0.1,p0.2.1,p0.2.2.1,p0.2.2.2.1,p0.2.2.2.2)) else (if g.1==3 then ((cr 8 p0.1 ([g.2.1])).bind fun p=>(cr 8 p0.2.2.2.1 ([0])).bind fun q=>some ((false,AP 1 (p0.1.length:Int),AP 1 (p0.1.length:Int)),p,p0.2.1,p0.2.2.1,q,p0.2.2.2.2)) else (if g.1==4 then ((chk (And (0<=(i64.wrap ((p1.length:Int) - 1))) ((i64.wrap ((p1.length:Int) - 1))<=(p1.length:Int)))).bind fun _=>(jI (p1.take ((i64.wrap ((p1.length:Int) - 1)).toNat))).bind fun h=>(chk (And (0<=h) (h<=(p1.length:Int)))).bind fun _=>((dW n) (p0.1,p0.2.1,p0.2.2.1,p0.2.2.2.1,p0.2.2.2.2) (p1.take h.toNat)).bind fun b=>(chk (And (0<=h) (And (h<=(i64.wrap ((p1.length:Int) - 1))) ((i64.wrap ((p1.length:Int) - 1))<=(p1.length:Int))))).bind fun _=>((dW n) (b.2.1,b.2.2.1,b.2.2.2.1,b.2.2.2.2.1,b.2.2.2.2.2) ((p1.take ((i64.wrap ((p1.length:Int) - 1)).toNat)).drop h.toNat)).bind fun a=>(qH (a.2.1,a.2.2.1,a.2.2.2.1,a.2.2.2.2.1,a.2.2.2.2.2) b.1.2.2 a.1.2.1).bind fun d=>if b.1.1 then (Option.bind ((if b.1.1 then (some (a.1.1,orI b.1.2.1 a.1.2.1,a.1.2.2)) else (some (a.1.1,b.1.2.1,a.1.2.2)):Option (Bool×Int×Int))) (fun j=>Option.bind ((if a.1.1 then (some (j.1,j.2.1,orI b.1.2.2 a.1.2.2)) else (some (j.1,j.2.1,j.2.2)):Option (Bool×Int×Int))) (fun m=>some ((m.1,m.2.1,m.2.2),d.1,d.2.1,d.2.2.1,d.2.2.2.1,d.2.2.2.2)))) else (Option.bind ((if b.1.1 then (some (false,orI b.1.2.1 a.1.2.1,a.1.2.2)) else (some (false,b.1.2.1,a.1.2.2)):Option (Bool×Int×Int))) (fun k=>Option.bind ((if a.1.1 then (some (k.1,k.2.1,orI b.1.2.2 a.1.2.2)) else (some (k.1,k.2.1,k.2.2)):Option (Bool×Int×Int))) (fun o=>some ((o.1,o.2.1,o.2.2),d.1,d.2.1,d.2.2.1,d.2.2.2.1,d.2.2.2.2))))) else (if g.1==5 then ((chk (And (0<=(i64.wrap ((p1.length:Int) - 1))) ((i64.wrap ((p1.length:Int) - 1))<=(p1.length:Int)))).bind fun _=>(jI (p1.take ((i64.wrap ((p1.length:Int) - 1)).toNat))).bind fun i=>(chk (And (0<=i) (i<=(p1.length:Int)))).bind fun _=>((dW n) (p0.1,p0.2.1,p0.2.2.1,p0.2.2.2.1,p0.2.2.2.2) (p1.take i.toNat)).bind fun e=>(chk (And (0<=i) (And (i<=(i64.wrap ((p1.length:Int) - 1))) ((i64.wrap ((p1.length:Int) - 1))<=(p1.length:Int))))).bind fun _=>((dW n) (e.2.1,e.2.2.1,e.2.2.2.1,e.2.2.2.2.1,e.2.2.2.2.2) ((p1.take ((i64.wrap ((p1.length:Int) - 1)).toNat)).drop i.toNat)).bind fun c=>if e.1.1 then (some ((true,orI e.1.2.1 c.1.2.1,orI e.1.2.2 c.1.2.2),c.2.1,c.2.2.1,c.2.2.2.1,c.2.2.2.2.1,c.2.2.2.2.2)) else (some ((c.1.1,orI e.1.2.1 c.1.2.1,orI e.1.2.2 c.1.2.2),c.2.1,c.2.2.1,c.2.2.2.1,c.2.2.2.2.1,c.2.2.2.2.2))) else (if g.1==6 then ((chk (And (0<=(i64.wrap ((p1.length:Int) - 1))) ((i64.wrap ((p1.length:Int) - 1))<=(p1.length:Int)))).bind fun _=>((dW n) (p0.1,p0.2.1,p0.2.2.1,p0.2.2.2.1,p0.2.2.2.2) (p1.take ((i64.wrap ((p1.length:Int) - 1)).toNat))).bind fun f=>(qH (f.2.1,f.2.2.1,f.2.2.2.1,f.2.2.2.2.1,f.2.2.2.2.2) f.1.2.2 f.1.2.1).bind fun l=>some ((true,f.1.2.1,f.1.2.2),l.1,l.2.1,l.2.2.1,l.2.2.2.1,l.2.2.2.2)) else (some ((false,0,0),p0.1,p0.2.1,p0.2.2.1,p0.2.2.2.1,p0.2.2.2.2))))))
def dX (b:Yq1×Bool) (a:Int×Int):Option (Out (Xh×Bool) (Int×Int)):=
 if decide (a.2<(b.1.length:Int)) then (Option.bind (((aK b.1 a.2).bind fun c=>if c.1==3 then (some (i64.wrap (a.1+1))) else (some a.1):Option Int)) (fun d=>some (.nxt (d,i64.wrap (a.2+1))))) else (some (.brk (a.1,a.2)))
def jo (c:List Yq4):Option (Xh×Bool):=
 (oJ c).bind fun b=>if b.2 then (aJ (aj (dX b) aP (0,0)) (fun d=>some d) (fun e=>if decide (e.1>20) then (some ((([] :List Int),0,0,([] :List Int),false),false)) else ((dW iU (([] :List Int),0,0,([] :List Int),false) b.1).bind fun a=>some ((a.2.1,a.1.2.1,a.1.2.2,a.2.2.2.2.1,a.1.1),true)))) else (some ((([] :List Int),0,0,([] :List Int),false),false))
def jJ (b:(List Int)×Int×Int×(List Int)×Bool) (c:Int) (a:Int×Int):Option zF:=
 if decide (a.2<(b.1.length:Int)) then (Option.bind (((chk (0<=i64.wrap (a.2+1))).bind fun _=>if (wE (rq c (i64.wrap (a.2+1))) 1)==1 then ((aK b.2.2.2.1 a.2).bind fun d=>some (orI a.1 d)) else (some a.1):Option Int)) (fun e=>some (.nxt (e,i64.wrap (a.2+1))))) else (some (.brk (a.1,a.2)))
def jK (b:(List Int)×Int×Int×(List Int)×Bool) (c:Int) (d:Int×Int) (a:Int×Int):Option zF:=
 if decide (a.2<(b.1.length:Int)) then (Option.bind (((chk (0<=a.2)).bind fun _=>if (wE (rq d.1 a.2) 1)==1 then ((aK b.1 a.2).bind fun e=>if e==c then ((chk (0<=i64.wrap (a.2+1))).bind fun _=>some (orI a.1 (AP 1 (i64.wrap (a.2+1))))) else (some a.1)) else (some a.1):Option Int)) (fun f=>some (.nxt (f,i64.wrap (a.2+1))))) else (some (.brk (a.1,a.2)))
def rE (a:(List Int)×Int×Int×(List Int)×Bool) (b:Int) (c:Int):Option Int:=
 Option.bind ((if (wE b 1)==1 then (some a.2.1) else (some 0):Option Int)) (fun d=>aJ (aj (jJ a b) aP (d,0)) (fun r=>some r) (fun e=>aJ (aj (jK a c e) aP (0,0)) (fun r=>some r) (fun f=>some f.1)))
def se (b:List Int) (c:Int) (a:Int):Option (Out Int Int):=
 if decide (a<(b.length:Int)) then ((aK b a).bind fun d=>if d==c then (some (.ret a)) else (some (.nxt (i64.wrap (a+1))))) else (some (.brk a))
def qI (a:List Int) (b:Int):Option Int:=
 aJ (aj (se a b) aP 0) (fun r=>some r) (fun c=>some (-1))
def oK (a:(List Int)×Int×Int×(List Int)×Bool) (b:Int):Option Bool:=
 if (wE b 1)==1 then (if a.2.2.2.2 then (some true) else (some ((wE (rq b 1) a.2.2.1) !=0))) else (some ((wE (rq b 1) a.2.2.1) !=0))
def ky (b:(List Int)×Int×Int×(List Int)×Bool) (f:(List Int)×Int×Int×(List Bool)×(List (List Int))) (a:(List Int)×(List Int)×Int):Option (Out (Yq2×Bool) ((List Int)×(List Int)×Int)):=
 if decide (a.2.2<9) then ((aK a.1 f.2.1).bind fun g=>(rE (b.1,b.2.1,b.2.2.1,b.2.2.2.1,b.2.2.2.2) g a.2.2).bind fun c=>Option.bind ((if c !=0 then ((qI a.1 c).bind fun d=>if decide (d<0) then ((cr 8 a.1 ([c])).bind fun h=>some (h,(a.1.length:Int))) else (some (a.1,d))) else (some (a.1,-1)):Option ((List Int)×Int))) (fun e=>(cr 8 a.2.1 ([e.2])).bind fun i=>some (.nxt (e.1,i,i64.wrap (a.2.2+1))))) else (some (.brk (a.1,a.2.1,a.2.2)))
def gJ (b:(List Int)×Int×Int×(List Int)×Bool) (d:Int) (a:(List Int)×Int×Int×(List Bool)×(List (List Int))):Option (Out (Yq2×Bool) ((List Int)×Int×Int×(List Bool)×(List (List Int)))):=
 if decide (a.2.1<(a.1.length:Int)) then (aJ (aj (ky b a) aP (a.1,([] :List Int),0)) (fun r=>some (.ret r)) (fun c=>if decide ((c.1.length:Int)>d) then (some (.ret ((0,[],[]),false))) else ((aK c.1 a.2.1).bind fun e=>(oK (b.1,b.2.1,b.2.2.1,b.2.2.2.1,b.2.2.2.2) e).bind fun f=>(cr 1 a.2.2.2.1 ([f])).bind fun g=>(cr 24 a.2.2.2.2 ([c.2.1])).bind fun h=>some (.nxt (c.1,i64.wrap (a.2.1+1),a.2.2.1,g,h))))) else (some (.brk (a.1,a.2.1,a.2.2.1,a.2.2.2.1,a.2.2.2.2)))
def kR (b:(List Int)×Int×Int×(List Int)×Bool) (c:Int):Option (Yq2×Bool):=
 aJ (aj (gJ b c) aP ([1],0,0,[],[])) (fun r=>some r) (fun a=>some ((a.2.2.1,a.2.2.2.1,a.2.2.2.2),true))
def Bc (a:(List Int)×Int):Option (Out Yq2 ((List Int)×Int)):=
 if decide (a.2<9) then ((cr 8 a.1 ([-1])).bind fun b=>some (.nxt (b,i64.wrap (a.2+1)))) else (some (.brk (a.1,a.2)))
def sf:Option Yq2:=
 aJ (aj (Bc) aP (([] :List Int),0)) (fun r=>some r) (fun a=>some (0,[false],[a.1]))
def iW (f:Int×(List Bool)×(List (List Int))) (d:List Int) (g:List Bool) (h:(List Int)×(List Int)×Int×Int×(List Bool)×(List (List Int))) (a:(List Int)×(List Int)×(List Int)×Int):Option (Out Yq2 ((List Int)×(List Int)×(List Int)×Int)):=
 if decide (a.2.2.2<9) then ((aK a.2.1 h.2.2.1).bind fun i=>(aK f.2.2 i).bind fun j=>(aK j a.2.2.2).bind fun b=>Option.bind ((if decide (b≥0) then ((aK g b).bind fun k=>if k then ((aK d b).bind fun l=>(qI a.1 l).bind fun e=>if decide (e<0) then ((aK d b).bind fun m=>(cr 8 a.1 ([m])).bind fun n=>(cr 8 a.2.1 ([b])).bind fun o=>some (n,o,(a.1.length:Int))) else (some (a.1,a.2.1,e))) else (some (a.1,a.2.1,-1))) else (some (a.1,a.2.1,-1)):Option ((List Int)×(List Int)×Int))) (fun c=>(cr 8 a.2.2.1 ([c.2.2])).bind fun p=>some (.nxt (c.1,c.2.1,p,i64.wrap (a.2.2.2+1))))) else (some (.brk (a.1,a.2.1,a.2.2.1,a.2.2.2)))
def lD (c:Int×(List Bool)×(List (List Int))) (d:List Int) (e:List Bool) (a:(List Int)×(List Int)×Int×Int×(List Bool)×(List (List Int))):Option (Out Yq2 ((List Int)×(List Int)×Int×Int×(List Bool)×(List (List Int)))):=
 if decide (a.2.2.1<(a.1.length:Int)) then (aJ (aj (iW c d e a) aP (a.1,a.2.1,([] :List Int),0)) (fun r=>some (.ret r)) (fun b=>(aK b.2.1 a.2.2.1).bind fun f=>(aK c.2.1 f).bind fun g=>(cr 1 a.2.2.2.2.1 ([g])).bind fun h=>(cr 24 a.2.2.2.2.2 ([b.2.2.1])).bind fun i=>some (.nxt (b.1,b.2.1,i64.wrap (a.2.2.1+1),a.2.2.2.1,h,i)))) else (some (.brk (a.1,a.2.1,a.2.2.1,a.2.2.2.1,a.2.2.2.2.1,a.2.2.2.2.2)))
def kz (a:Int×(List Bool)×(List (List Int))) (d:List Int) (e:List Bool):Option Yq2:=
 (aK e a.1).bind fun f=>if f then ((aK d a.1).bind fun g=>aJ (aj (lD a d e) aP ([g],[a.1],0,0,[],[])) (fun r=>some r) (fun b=>some (b.2.2.2.1,b.2.2.2.2.1,b.2.2.2.2.2))) else ((sf).bind fun c=>some (c.1,c.2.1,c.2.2))
def oL (c:Int×(List Bool)×(List (List Int))) (b:(List Bool)×Int) (a:(List Bool)×Int):Option (Out (List Bool) ((List Bool)×Int)):=
 if decide (a.2<9) then (Option.bind (((aK c.2.2 b.2).bind fun d=>(aK d a.2).bind fun e=>if decide (e≥0) then ((aK c.2.2 b.2).bind fun f=>(aK f a.2).bind fun g=>(aK a.1 g).bind fun h=>if h then ((aK a.1 b.2).bind fun j=>some (a.1.set b.2.toNat true)) else (some a.1)) else (some a.1):Option (List Bool))) (fun i=>some (.nxt (i,i64.wrap (a.2+1))))) else (some (.brk (a.1,a.2)))
def kS (b:Int×(List Bool)×(List (List Int))) (a:(List Bool)×Int):Option (Out (List Bool) ((List Bool)×Int)):=
 if decide (a.2<(b.2.1.length:Int)) then (aJ (aj (oL b a) aP (a.1,0)) (fun r=>some (.ret r)) (fun c=>some (.nxt (c.1,i64.wrap (a.2+1))))) else (some (.brk (a.1,a.2)))
def oM (b:Int×(List Bool)×(List (List Int))) (a:(List Bool)×Int):Option (Out (List Bool) ((List Bool)×Int)):=
 if decide (a.2<(b.2.1.length:Int)) then (aJ (aj (kS b) aP (a.1,0)) (fun r=>some (.ret r)) (fun c=>some (.nxt (c.1,i64.wrap (a.2+1))))) else (some (.brk (a.1,a.2)))
def nU (a:Int×(List Bool)×(List (List Int))):Option (List Bool):=
 (cr 1 ([] :List Bool) a.2.1).bind fun b=>aJ (aj (oM a) aP (b,0)) (fun r=>some r) (fun c=>some c.1)
def pX (c:Int×(List Bool)×(List (List Int))) (d:List Int) (e:Int) (a:(List Int)×Int):Option Vm:=
 if decide (a.2<9) then (Option.bind (((aK c.2.2 e).bind fun f=>(aK f a.2).bind fun b=>if decide (b<0) then ((cr 8 a.1 ([-1])).bind fun g=>some g) else ((aK d b).bind fun h=>(cr 8 a.1 ([h])).bind fun i=>some i):Option (List Int))) (fun j=>some (.nxt (j,i64.wrap (a.2+1))))) else (some (.brk (a.1,a.2)))
def sD (c:Int×(List Bool)×(List (List Int))) (a:List Int) (b:Int):Option (List Int):=
 (aK a b).bind fun d=>aJ (aj (pX c a b) aP ([d],0)) (fun r=>some r) (fun e=>some e.1)
def gK (b:Int×(List Bool)×List (List Int)) (c:List Bool) (a:(List Int)×Int):Option Vm:=
 if decide (a.2<(b.2.1.length:Int)) then ((aK b.2.1 a.2).bind fun d=>Option.bind ((if d then (some 1) else (some 0):Option Int)) (fun e=>(aK c a.2).bind fun f=>Option.bind ((if f then (some e) else (some (-1)):Option Int)) (fun g=>(cr 8 a.1 ([g])).bind fun h=>some (.nxt (h,i64.wrap (a.2+1)))))) else (some (.brk (a.1,a.2)))
def gL (b:(List (List Int))×(List Int)×Int) (c:List Int) (a:Int×Int):Option (Out (List Int) (Int×Int)):=
 if decide (a.2<(b.1.length:Int)) then (Option.bind (((aK b.1 a.2).bind fun d=>(qF d c).bind fun e=>if e==0 then (some a.2) else (some a.1):Option Int)) (fun f=>some (.nxt (f,i64.wrap (a.2+1))))) else (some (.brk (a.1,a.2)))
def gM (b:Int×(List Bool)×List (List Int)) (c:(List Int)×Int) (a:(List (List Int))×(List Int)×Int):Option (Out (List Int) ((List (List Int))×(List Int)×Int)):=
 if decide (a.2.2<(b.2.1.length:Int)) then (Option.bind (((aK c.1 a.2.2).bind fun h=>if decide (h<0) then ((cr 8 a.2.1 ([(-1)])).bind fun i=>some (a.1,i)) else ((sD (b.1,b.2.1,b.2.2) c.1 a.2.2).bind fun d=>aJ (aj (gL a d) aP ((-1),0)) (fun l=>none) (fun e=>Option.bind ((if decide (e.1<0) then ((cr 24 a.1 ([d])).bind fun j=>some (j,(a.1.length:Int))) else (some (a.1,e.1)):Option ((List (List Int))×Int))) (fun f=>(cr 8 a.2.1 ([f.2])).bind fun k=>some (f.1,k)))):Option ((List (List Int))×List Int))) (fun g=>some (.nxt (g.1,g.2,i64.wrap (a.2.2+1))))) else (some (.brk (a.1,a.2.1,a.2.2)))
def nV (b:Int×(List Bool)×List (List Int)) (a:(List Int)×Int):Option Vm:=
 if decide (a.2<=(b.2.1.length:Int)) then (aJ (aj (gM b a) aP (([] :List (List Int)),([] :List Int),0)) (fun d=>some (.ret d)) (fun c=>(qF c.2.1 a.1).bind fun e=>if e==0 then (some (.ret a.1)) else (some (.nxt (c.2.1,i64.wrap (a.2+1)))))) else (some (.brk (a.1,a.2)))
def kT (a:Int×(List Bool)×List (List Int)):Option (List Int):=
 (nU (a.1,a.2.1,a.2.2)).bind fun b=>aJ (aj (gK a b) aP (([] :List Int),0)) (fun c=>some c) (fun d=>aJ (aj (nV a) aP (d.1,0)) (fun e=>some e) (fun f=>some f.1))
def gN (a:Int×(List Bool)×(List (List Int))):Option Yq2:=
 (kT (a.1,a.2.1,a.2.2)).bind fun c=>(nU (a.1,a.2.1,a.2.2)).bind fun d=>(kz (a.1,a.2.1,a.2.2) c d).bind fun b=>some (b.1,b.2.1,b.2.2)
def jL (d:Yq1):Option (Yq2×Bool):=
 (jo d).bind fun a=>if a.2 then ((kR (a.1.1,a.1.2.1,a.1.2.2.1,a.1.2.2.2.1,a.1.2.2.2.2) 200).bind fun b=>if b.2 then ((gN (b.1.1,b.1.2.1,b.1.2.2)).bind fun c=>if decide ((c.2.1.length:Int)>12) then (some ((0,[],[]),false)) else (some ((c.1,c.2.1,c.2.2),true))) else (some ((0,[],[]),false))) else (some ((0,[],[]),false))
def gD (b:Int×(List Bool)×(List (List Int))) (c:Int×(List Bool)×(List (List Int))) (a:Int):Option (Out Bool Int):=
 if decide (a<(b.2.1.length:Int)) then ((aK b.2.1 a).bind fun d=>(aK c.2.1 a).bind fun e=>if d !=e then (some (.ret false)) else (some (.nxt (i64.wrap (a+1))))) else (some (.brk a))
def gE (b:Int×(List Bool)×(List (List Int))) (c:Int×(List Bool)×(List (List Int))) (a:Int):Option (Out Bool Int):=
 if decide (a<(b.2.2.length:Int)) then ((aK b.2.2 a).bind fun d=>(aK c.2.2 a).bind fun e=>(qF d e).bind fun f=>if f !=0 then (some (.ret false)) else (some (.nxt (i64.wrap (a+1))))) else (some (.brk a))
def gO (a:Int×(List Bool)×(List (List Int))) (b:Int×(List Bool)×(List (List Int))):Option Bool:=
 if a.1 !=b.1 then (some false) else (if (a.2.1.length:Int) !=(b.2.1.length:Int) then (some false) else (if (a.2.2.length:Int) !=(b.2.2.length:Int) then (some false) else (aJ (aj (gD a b) aP 0) (fun r=>some r) (fun c=>aJ (aj (gE a b) aP 0) (fun r=>some r) (fun d=>some true)))))
def jM (d:List Yq2) (b:Int×(List Bool)×(List (List Int))) (a:Int):Option (Out Int Int):=
 if decide (a<(d.length:Int)) then ((aK d a).bind fun c=>(gO (c.1,c.2.1,c.2.2) (b.1,b.2.1,b.2.2)).bind fun e=>if e then (some (.ret a)) else (some (.nxt (i64.wrap (a+1))))) else (some (.brk a))
def rF (a:List Yq2) (b:Int×(List Bool)×(List (List Int))):Option Int:=
 aJ (aj (jM a b) aP 0) (fun r=>some r) (fun c=>some (-1))
def dY (c:List xw) (a:Int×(List Yq2)×Yq3):Option (Out (Yq9×Bool) Xi):=
 if decide (a.1<(c.length:Int)) then ((aK c a.1).bind fun h=>(jL h.2.1).bind fun b=>if b.2 then ((aK c a.1).bind fun i=>(cn i.1 1 99).bind fun j=>if j then (if decide (a.1>0) then ((aK c (i64.wrap (a.1 - 1))).bind fun k=>(aK c a.1).bind fun l=>if decide (k.1≥l.1) then (some (.ret (([],[]),false))) else ((rF a.2.1 (b.1.1,b.1.2.1,b.1.2.2)).bind fun f=>Option.bind ((if decide (f<0) then ((cr 56 a.2.1 ([(b.1.1,b.1.2.1,b.1.2.2)])).bind fun m=>some ((a.2.1.length:Int),m,a.2.2)) else (some (f,a.2.1,a.2.2)):Option Xi)) (fun d=>(aK c a.1).bind fun n=>(aK c a.1).bind fun o=>(jd o.2.1).bind fun p=>(cr 40 d.2.2 ([(n.1,p,d.1)])).bind fun q=>some (.nxt (i64.wrap (a.1+1),d.2.1,q))))) else ((rF a.2.1 (b.1.1,b.1.2.1,b.1.2.2)).bind fun g=>Option.bind ((if decide (g<0) then ((cr 56 a.2.1 ([(b.1.1,b.1.2.1,b.1.2.2)])).bind fun r=>some ((a.2.1.length:Int),r,a.2.2)) else (some (g,a.2.1,a.2.2)):Option Xi)) (fun e=>(aK c a.1).bind fun s=>(aK c a.1).bind fun t=>(jd t.2.1).bind fun u=>(cr 40 e.2.2 ([(s.1,u,e.1)])).bind fun v=>some (.nxt (i64.wrap (a.1+1),e.2.1,v))))) else (some (.ret (([],[]),false)))) else (some (.ret (([],[]),false)))) else (some (.brk (a.1,a.2.1,a.2.2)))
def rG (a:List xw):Option (Yq9×Bool):=
 if decide ((a.length:Int)>4) then (some (([],[]),false)) else (aJ (aj (dY a) aP (0,[],[])) (fun r=>some r) (fun b=>some ((b.2.1,b.2.2),true)))
def kA (d:Yq1) (e:Yq1) (a:Int):Option (Out Bool Int):=
 if decide (a<(d.length:Int)) then ((aK d a).bind fun b=>(aK e a).bind fun c=>if (b.1==c.1)&&((b.2.1==c.2.1)&&((b.2.2.1==c.2.2.1)&&((b.2.2.2==c.2.2.2)&&true))) then (some (.nxt (i64.wrap (a+1)))) else (some (.ret false))) else (some (.brk a))
def si (a:Yq1) (b:Yq1):Option Bool:=
 if (a.length:Int) !=(b.length:Int) then (some false) else (aJ (aj (kA a b) aP 0) (fun r=>some r) (fun c=>some true))
def fo (d:(List Yq2)×Yq3) (e:(List Yq2)×Yq3) (a:Int):Option (Out Bool Int):=
 if decide (a<(d.1.length:Int)) then ((aK d.1 a).bind fun b=>(aK e.1 a).bind fun c=>(gO (b.1,b.2.1,b.2.2) (c.1,c.2.1,c.2.2)).bind fun f=>if f then (some (.nxt (i64.wrap (a+1)))) else (some (.ret false))) else (some (.brk a))
def fp (b:(List Yq2)×Yq3) (c:(List Yq2)×Yq3) (a:Int):Option (Out Bool Int):=
 if decide (a<(b.2.length:Int)) then ((aK b.2 a).bind fun d=>(aK c.2 a).bind fun e=>if d.1 !=e.1 then (some (.ret false)) else ((aK b.2 a).bind fun f=>(aK c.2 a).bind fun g=>(si f.2.1 g.2.1).bind fun h=>if h then ((aK b.2 a).bind fun i=>(aK c.2 a).bind fun j=>if i.2.2 !=j.2.2 then (some (.ret false)) else (some (.nxt (i64.wrap (a+1))))) else (some (.ret false)))) else (some (.brk a))
def iE (a:(List Yq2)×Yq3) (b:(List Yq2)×Yq3):Option Bool:=
 if (a.1.length:Int) !=(b.1.length:Int) then (some false) else (if (a.2.length:Int) !=(b.2.length:Int) then (some false) else (aJ (aj (fo a b) aP 0) (fun r=>some r) (fun c=>aJ (aj (fp a b) aP 0) (fun r=>some r) (fun d=>some true))))
def c8 (a:(List Yq2)×Yq3):Option Bool:=
 (rG a.2).bind fun b=>if b.2 then ((iE (b.1.1,b.1.2) (a.1,a.2)).bind fun c=>some c) else (some false)
def fA (b:(List Yq2)×Yq3) (c:Int) (a:Int):Option (Out Int Int):=
 if decide (a<(b.2.length:Int)) then ((aK b.2 a).bind fun d=>if d.1==c then (some (.ret a)) else (some (.nxt (i64.wrap (a+1))))) else (some (.brk a))
def fJ (a:(List Yq2)×Yq3) (b:Int):Option Int:=
 aJ (aj (fA a b) aP 0) (fun r=>some r) (fun c=>some (-1))
def bC (a:Int×Yq5):Option Int:=
 (m_s_IsValidHistory (a.1,a.2)).bind fun b=>if b then (some (i64.wrap ((i64.wrap (a.1+(a.2.length:Int))) - 1))) else (some 0)
def du (a:(Int×Yq5)×Yq9×(List Yq8)×ByteArray) (b:Int):Option (Out Bool Int):=
 if decide (b<(a.2.2.1.length:Int)) then ((aK a.2.2.1 b).bind fun c=>(cn c.1 1 99).bind fun d=>if d then (if decide (b>0) then ((aK a.2.2.1 (i64.wrap (b - 1))).bind fun e=>if decide (e.1≥c.1) then (some (.ret false)) else ((fJ (a.2.1.1,a.2.1.2) c.2.1).bind fun f=>if decide (f<0) then (some (.ret false)) else ((bC (a.1.1,a.1.2)).bind fun g=>(cn c.2.2 0 g).bind fun h=>if h then (some (.nxt (i64.wrap (b+1)))) else (some (.ret false))))) else ((fJ (a.2.1.1,a.2.1.2) c.2.1).bind fun i=>if decide (i<0) then (some (.ret false)) else ((bC (a.1.1,a.1.2)).bind fun j=>(cn c.2.2 0 j).bind fun k=>if k then (some (.nxt (i64.wrap (b+1)))) else (some (.ret false))))) else (some (.ret false))) else (some (.brk b))
def yB (a:(Int×Yq5)×Yq9×(List Yq8)×ByteArray):Option Bool:=
 aJ (aj (du a) aP 0) (fun r=>some r) (fun b=>some (decide ((a.2.2.1.length:Int)<=4)))
def rH (b:ByteArray) (d:Int) (a:(List ByteArray)×Int×Int):Option (Out (List ByteArray) ((List ByteArray)×Int×Int)):=
 if decide (a.2.2<((b.size:Nat):Int)) then (Option.bind (((nB b a.2.2).bind fun e=>if e==d then ((vn b a.2.1 a.2.2).bind fun f=>(cr 16 a.1 ([f])).bind fun g=>some (g,i64.wrap (a.2.2+1))) else (some (a.1,a.2.1)):Option ((List ByteArray)×Int))) (fun c=>some (.nxt (c.1,c.2,i64.wrap (a.2.2+1))))) else (some (.brk (a.1,a.2.1,a.2.2)))
def jN (a:ByteArray) (c:Int):Option (List ByteArray):=
 aJ (aj (rH a c) aP (([] :List ByteArray),0,0)) (fun d=>some d) (fun b=>(vn a b.2.1 ((a.size:Nat):Int)).bind fun e=>(cr 16 b.1 ([e])).bind fun f=>some f)
def eI (a:Int×ByteArray):Option (Out ByteArray (Int×ByteArray)):=
 if a.1 !=0 then (Option.bind ((if decide ((Int.tmod a.1 10)<0) then (some (i64.wrap (-(Int.tmod a.1 10)))) else (some (Int.tmod a.1 10)):Option Int)) (fun b=>(pv (B2 ([IntKind.u8.wrap (i64.wrap (48+b))])) a.2).bind fun c=>some (.nxt (Hr a.1 10,c)))) else (some (.brk (a.1,a.2)))
def cz (a:Int):Option ByteArray:=
 if a==0 then (some (⟨#[48]⟩)) else (aJ (aj (eI) aP (a,(⟨#[]⟩:ByteArray))) (fun c=>some c) (fun b=>if decide (a<0) then ((pv (⟨#[45]⟩) b.2).bind fun d=>some d) else (some b.2)))
def jO (b:ByteArray) (a:Int×Int×Int):Option (Out (Int×Bool) Yq8):=
 if decide (a.2.2<((b.size:Nat):Int)) then (if decide (a.2.2<11) then (Option.bind (((nB b a.2.2).bind fun d=>if decide (d≥48) then ((nB b a.2.2).bind fun e=>if decide (e<=57) then ((nB b a.2.2).bind fun f=>some (i64.wrap ((i64.wrap (a.1*10))+(i64.wrap (IntKind.u8.wrap (f - 48)))),i64.wrap (a.2.1+1))) else (some (a.1,a.2.1))) else (some (a.1,a.2.1)):Option (Int×Int))) (fun c=>some (.nxt (c.1,c.2,i64.wrap (a.2.2+1))))) else (some (.brk (a.1,a.2.1,a.2.2)))) else (some (.brk (a.1,a.2.1,a.2.2)))
def ij (a:ByteArray):Option (Int×Bool):=
 aJ (aj (jO a) aP (0,0,0)) (fun e=>some e) (fun b=>if decide (((a.size:Nat):Int)>0) then ((nB a 0).bind fun f=>Option.bind ((if f==45 then (some (i64.wrap (-b.1))) else (some b.1):Option Int)) (fun c=>if decide (b.2.1>9) then (some (0,false)) else (if decide (((a.size:Nat):Int)>10) then (some (0,false)) else ((cz c).bind fun g=>if g !=a then (some (0,false)) else (some (c,true)))))) else (Option.bind ((some b.1:Option Int)) (fun d=>if decide (b.2.1>9) then (some (0,false)) else (if decide (((a.size:Nat):Int)>10) then (some (0,false)) else ((cz d).bind fun h=>if h !=a then (some (0,false)) else (some (d,true)))))))
def iX (a:Int):Option ByteArray:=
 (oZ a).bind fun b=>if b then ((aK ([(⟨#[97]⟩:ByteArray),(⟨#[97,45]⟩:ByteArray),(⟨#[98]⟩:ByteArray),(⟨#[98,45]⟩:ByteArray),(⟨#[99]⟩:ByteArray),(⟨#[99,45]⟩:ByteArray),(⟨#[48]⟩:ByteArray),(⟨#[49]⟩:ByteArray),(⟨#[50]⟩:ByteArray)]) a).bind fun c=>some c) else (some (⟨#[]⟩:ByteArray))
def mR (b:ByteArray) (a:Int):Option (Out (Int×Bool) Int):=
 if decide (a<9) then ((iX a).bind fun c=>if c==b then (some (.ret (a,true))) else (some (.nxt (i64.wrap (a+1))))) else (some (.brk a))
def jP (a:ByteArray):Option (Int×Bool):=
 aJ (aj (mR a) aP 0) (fun r=>some r) (fun b=>some (0,false))
def kU (a:Int×Int×Int×Int):Option ByteArray:=
 (cn a.1 1 99).bind fun b=>if b then ((cn a.2.1 0 4).bind fun c=>if c then ((cn a.2.2.1 0 4).bind fun d=>if d then ((cn a.2.2.2 0 2).bind fun e=>if e then ((cz a.1).bind fun f=>(pv f (⟨#[58]⟩)).bind fun g=>(cz a.2.1).bind fun h=>(pv g h).bind fun i=>(iX (i64.wrap (2*a.2.2.2))).bind fun j=>(pv i j).bind fun k=>(cz a.2.2.1).bind fun l=>(pv k l).bind fun m=>some m) else (some ((⟨#[]⟩:ByteArray)))) else (some ((⟨#[]⟩:ByteArray)))) else (some ((⟨#[]⟩:ByteArray)))) else (some ((⟨#[]⟩:ByteArray)))
def iF (b:ByteArray):Option (Yq4×Bool):=
 (jN b 58).bind fun a=>if (a.length:Int) !=2 then (some ((0,0,0,0),false)) else ((aK a 1).bind fun g=>if ((g.size:Nat):Int) !=3 then (some ((0,0,0,0),false)) else ((aK a 0).bind fun h=>(ij h).bind fun c=>(aK a 1).bind fun i=>(vn i 1 2).bind fun j=>(jP j).bind fun d=>(aK a 1).bind fun k=>(nB k 0).bind fun e=>(aK a 1).bind fun l=>(nB l 2).bind fun f=>(kU (c.1,i64.wrap ((i64.wrap e) - 48),i64.wrap ((i64.wrap f) - 48),Hr d.1 2)).bind fun m=>if m !=b then (some ((0,0,0,0),false)) else (some ((c.1,i64.wrap ((i64.wrap e) - 48),i64.wrap ((i64.wrap f) - 48),Hr d.1 2),true))))
def fK (c:List Yq7) (a:ByteArray×Int):Option (Out ByteArray (ByteArray×Int)):=
 if decide (a.2<(c.length:Int)) then (Ni (S:=ByteArray) ((aK c a.2).bind fun b=>(kU (b.2.1,b.2.2.1,b.2.2.2.1,b.2.2.2.2)).bind fun d=>if d==((⟨#[]⟩:ByteArray)) then (some (.inl (.ret ((⟨#[]⟩:ByteArray))))) else (Option.bind ((if decide (a.2>0) then ((pv a.1 (⟨#[32]⟩)).bind fun f=>some f) else (some a.1):Option ByteArray)) (fun e=>(aK c a.2).bind fun g=>if g.1 then ((pv e (⟨#[43]⟩)).bind fun h=>(pv h d).bind fun i=>some (.inr i)) else ((pv e (⟨#[45]⟩)).bind fun j=>(pv j d).bind fun k=>some (.inr k))))) (fun l=>some (.nxt (l,i64.wrap (a.2+1))))) else (some (.brk (a.1,a.2)))
def dx (a:List Yq7):Option ByteArray:=
 if decide ((a.length:Int)>6) then (some ((⟨#[]⟩:ByteArray))) else (aJ (aj (fK a) aP ((⟨#[]⟩:ByteArray),0)) (fun b=>some b) (fun c=>some c.1))
def dH (c:List ByteArray) (a:Int×List Yq7):Option (Out ((List Yq7)×Bool) (Int×List Yq7)):=
 if decide (a.1<(c.length:Int)) then (if decide (a.1<=6) then ((aK c a.1).bind fun e=>if decide (((e.size:Nat):Int)<2) then (some (.ret (([] :List Yq7),false))) else ((aK c a.1).bind fun d=>(vn d 1 ((d.size:Nat):Int)).bind fun f=>(iF f).bind fun b=>if b.2 then ((aK c a.1).bind fun g=>(nB g 0).bind fun h=>(cr 40 a.2 ([(h==43,b.1.1,b.1.2.1,b.1.2.2.1,b.1.2.2.2)])).bind fun i=>some (.nxt (i64.wrap (a.1+1),i))) else (some (.ret (([] :List Yq7),false))))) else (some (.brk (a.1,a.2)))) else (some (.brk (a.1,a.2)))
def gj (a:ByteArray):Option ((List Yq7)×Bool):=
 if a==((⟨#[]⟩:ByteArray)) then (some (([] :List Yq7),true)) else ((jN a 32).bind fun c=>aJ (aj (dH c) aP (0,([] :List Yq7))) (fun d=>some d) (fun b=>(dx b.2).bind fun e=>if e !=a then (some (([] :List Yq7),false)) else (some (b.2,true))))
def gP (b:ByteArray) (a:Int×Int):Option zF:=
 if decide (a.2<((b.size:Nat):Int)) then ((nB b a.2).bind fun c=>some (.nxt (Int.tmod (i64.wrap ((i64.wrap ((i64.wrap (a.1*257))+(i64.wrap c)))+1)) 9973,i64.wrap (a.2+1)))) else (some (.brk (a.1,a.2)))
def il (a:ByteArray):Option Int:=
 aJ (aj (gP a) aP (1,0)) (fun b=>some b) (fun c=>some c.1)
def fB (b:Int) (a:List Yq7):Option ByteArray:=
 (cn b 1 999).bind fun e=>if e then (if decide ((a.length:Int)>0) then ((dx a).bind fun f=>if f==((⟨#[]⟩:ByteArray)) then (some ((⟨#[]⟩:ByteArray))) else ((cz b).bind fun g=>(pv g (⟨#[59]⟩)).bind fun h=>(dx a).bind fun i=>(pv h i).bind fun j=>(pv j (⟨#[59]⟩)).bind fun c=>(il c).bind fun k=>(cz k).bind fun l=>(pv c l).bind fun m=>(pv m (⟨#[10]⟩)).bind fun n=>some n)) else ((cz b).bind fun o=>(pv o (⟨#[59]⟩)).bind fun p=>(dx a).bind fun q=>(pv p q).bind fun r=>(pv r (⟨#[59]⟩)).bind fun d=>(il d).bind fun s=>(cz s).bind fun t=>(pv d t).bind fun u=>(pv u (⟨#[10]⟩)).bind fun v=>some v)) else (some ((⟨#[]⟩:ByteArray)))
def lE (d:ByteArray):Option (Int×((List (Bool×Yq4)))×Bool):=
 (jN d 59).bind fun a=>if (a.length:Int) !=3 then (some (0,[],false)) else ((aK a 0).bind fun e=>(ij e).bind fun b=>(aK a 1).bind fun f=>(gj f).bind fun c=>if b.2 then (if c.2 then ((fB b.1 c.1).bind fun g=>if g !=d then (some (0,[],false)) else (some (b.1,c.1,true))) else (some (0,[],false))) else (some (0,[],false)))
def bB (c:ByteArray) (a:(List Int)×(List (List Yq7))×Int×Int):Option (Out ((List Int)×(List (List Yq7))×Int) ((List Int)×(List (List Yq7))×Int×Int)):=
 if decide (a.2.2.2<((c.size:Nat):Int)) then (if decide (((c.size:Nat):Int)<=4000) then (Ni (S:=(List Int)×(List (List Yq7))×Int) ((nB c a.2.2.2).bind fun e=>if e !=10 then (some (.inr (a.1,a.2.1,a.2.2.1))) else ((vn c a.2.2.1 (i64.wrap (a.2.2.2+1))).bind fun f=>(lE f).bind fun b=>if b.2.2 then (if decide ((a.1.length:Int)>0) then ((aK a.1 (i64.wrap ((a.1.length:Int) - 1))).bind fun g=>if b.1 !=(i64.wrap (g+1)) then (some (.inl (.ret (a.1,a.2.1,a.2.2.1)))) else ((cr 8 a.1 ([b.1])).bind fun h=>(cr 24 a.2.1 ([b.2.1])).bind fun i=>some (.inr (h,i,i64.wrap (a.2.2.2+1))))) else ((cr 8 a.1 ([b.1])).bind fun j=>(cr 24 a.2.1 ([b.2.1])).bind fun k=>some (.inr (j,k,i64.wrap (a.2.2.2+1))))) else (some (.inl (.ret (a.1,a.2.1,a.2.2.1)))))) (fun d=>some (.nxt (d.1,d.2.1,d.2.2,i64.wrap (a.2.2.2+1))))) else (some (.brk (a.1,a.2.1,a.2.2.1,a.2.2.2)))) else (some (.brk (a.1,a.2.1,a.2.2.1,a.2.2.2)))
def m_s_ScanLog (b:ByteArray):Option ((List Int)×(List (List Yq7))×Int):=
 aJ (aj (bB b) aP (([] :List Int),([] :List (List Yq7)),0,0)) (fun c=>some c) (fun a=>some (a.1,a.2.1,a.2.2.1))
def Bd (a:(Int×Yq5)×Yq9×(List Yq8)×ByteArray):Option Bool:=
 (m_s_ScanLog a.2.2.2).bind fun b=>if b.2.2==(a.2.2.2.size:Int) then (if decide ((a.2.2.2.size:Int)<=4000) then (if (b.1.length:Int)==0 then (some true) else ((aK b.1 (i64.wrap ((b.1.length:Int) - 1))).bind fun c=>(bC (a.1.1,a.1.2)).bind fun d=>some (c==d))) else (some false)) else (some false)
def kB (a:(Int×Yq5)×Yq9×(List Yq8)×ByteArray):Option Bool:=
 (m_s_IsValidHistory (a.1.1,a.1.2)).bind fun b=>if b then ((c8 (a.2.1.1,a.2.1.2)).bind fun c=>if c then ((yB ((a.1.1,a.1.2),(a.2.1.1,a.2.1.2),a.2.2.1,a.2.2.2)).bind fun d=>if d then ((Bd ((a.1.1,a.1.2),(a.2.1.1,a.2.1.2),a.2.2.1,a.2.2.2)).bind fun e=>some e) else (some false)) else (some false)) else (some false)
def nW (a:(List Int)×Yq1):Option HQ:=
 (cr 8 ([] :List Int) a.1).bind fun b=>(cr 32 ([] :List Yq4) a.2).bind fun c=>some (b,c)
def mS (b:Int×Yq5) (a:Int×Int×Yq5):Option (Out (Int×Yq5) (Int×Int×Yq5)):=
 if decide (a.1<(b.2.length:Int)) then ((aK b.2 a.1).bind fun c=>(nW (c.1,c.2)).bind fun d=>(cr 48 a.2.2 ([(d.1,d.2)])).bind fun e=>some (.nxt (i64.wrap (a.1+1),a.2.1,e))) else (some (.brk (a.1,a.2.1,a.2.2)))
def wY (a:Int×Yq5):Option (Int×Yq5):=
 aJ (aj (mS a) aP (0,a.1,[])) (fun r=>some r) (fun b=>some (b.2.1,b.2.2))
def kV (b:Int×(List Bool)×(List (List Int))) (a:Int×Int×(List Bool)×(List (List Int))):Option (Out Yq2 (Int×Int×(List Bool)×(List (List Int)))):=
 if decide (a.1<(b.2.2.length:Int)) then ((aK b.2.2 a.1).bind fun c=>(cr 8 ([] :List Int) c).bind fun d=>(cr 24 a.2.2.2 ([d])).bind fun e=>some (.nxt (i64.wrap (a.1+1),a.2.1,a.2.2.1,e))) else (some (.brk (a.1,a.2.1,a.2.2.1,a.2.2.2)))
def qJ (a:Int×(List Bool)×(List (List Int))):Option Yq2:=
 (cr 1 ([] :List Bool) a.2.1).bind fun c=>aJ (aj (kV a) aP (0,a.1,c,[])) (fun r=>some r) (fun b=>some (b.2.1,b.2.2.1,b.2.2.2))
def kW (d:(List Yq2)×Yq3) (a:Int×(List Yq2)×Yq3):Option (Out Yq9 Xi):=
 if decide (a.1<(d.1.length:Int)) then ((aK d.1 a.1).bind fun b=>(qJ (b.1,b.2.1,b.2.2)).bind fun c=>(cr 56 a.2.1 ([(c.1,c.2.1,c.2.2)])).bind fun e=>some (.nxt (i64.wrap (a.1+1),e,a.2.2))) else (some (.brk (a.1,a.2.1,a.2.2)))
def kX (c:(List Yq2)×Yq3) (a:Int×(List Yq2)×Yq3):Option (Out Yq9 Xi):=
 if decide (a.1<(c.2.length:Int)) then ((aK c.2 a.1).bind fun b=>(jd b.2.1).bind fun d=>(cr 40 a.2.2 ([(b.1,d,b.2.2)])).bind fun e=>some (.nxt (i64.wrap (a.1+1),a.2.1,e))) else (some (.brk (a.1,a.2.1,a.2.2)))
def tJ (a:(List Yq2)×Yq3):Option Yq9:=
 aJ (aj (kW a) aP (0,[],[])) (fun r=>some r) (fun b=>aJ (aj (kX a) aP (0,b.2.1,b.2.2)) (fun r=>some r) (fun c=>some (c.2.1,c.2.2)))
def tK (a:(Int×Yq5)×Yq9×(List Yq8)×ByteArray):Option aeD:=
 (wY (a.1.1,a.1.2)).bind fun b=>(tJ (a.2.1.1,a.2.1.2)).bind fun c=>(cr 24 ([] :List Yq8) a.2.2.1).bind fun d=>some ((b.1,b.2),(c.1,c.2),d,a.2.2.2)
def oN (b:List Yq8) (c:Int) (a:Int):Option (Out Int Int):=
 if decide (a<(b.length:Int)) then ((aK b a).bind fun d=>if d.1==c then (some (.ret a)) else (some (.nxt (i64.wrap (a+1))))) else (some (.brk a))
def tL (a:List Yq8) (b:Int):Option Int:=
 aJ (aj (oN a b) aP 0) (fun r=>some r) (fun c=>some (-1))
def nX (a:Int×Yq5) (b:(List Yq2)×Yq3) (c:Int×Int×Int):Option Bool:=
 (m_s_IsValidHistory (a.1,a.2)).bind fun d=>if d then ((c8 (b.1,b.2)).bind fun e=>if e then ((fJ (b.1,b.2) c.2.1).bind fun f=>if decide (f≥0) then (if decide (c.2.2≥0) then ((bC (a.1,a.2)).bind fun g=>some (decide (c.2.2<g))) else (some false)) else (some false)) else (some false)) else (some false)
def eF (a:(List Yq2)×Yq3) (e:Int):Option (Yq2×Bool):=
 (fJ (a.1,a.2) e).bind fun d=>(c8 (a.1,a.2)).bind fun f=>if f then (if decide (d<0) then (some ((0,[],[]),false)) else ((aK a.2 d).bind fun g=>(aK a.1 g.2.2).bind fun b=>(qJ (b.1,b.2.1,b.2.2)).bind fun c=>some ((c.1,c.2.1,c.2.2),true))) else (some ((0,[],[]),false))
def je (b:Int×(List Bool)×(List (List Int))) (c:Int) (a:Int):Option (Out Bool Int):=
 if decide (a<9) then ((aK b.2.2 c).bind fun d=>(aK d a).bind fun e=>(cn e (-1) (i64.wrap ((b.2.1.length:Int) - 1))).bind fun f=>if f then (some (.nxt (i64.wrap (a+1)))) else (some (.ret false))) else (some (.brk a))
def oO (b:Int×(List Bool)×(List (List Int))) (a:Int):Option (Out Bool Int):=
 if decide (a<(b.2.1.length:Int)) then ((aK b.2.2 a).bind fun c=>if (c.length:Int) !=9 then (some (.ret false)) else (aJ (aj (je b a) aP 0) (fun r=>some (.ret r)) (fun d=>some (.nxt (i64.wrap (a+1)))))) else (some (.brk a))
def qK (a:Int×(List Bool)×(List (List Int))):Option Bool:=
 (cn a.1 0 (i64.wrap ((a.2.1.length:Int) - 1))).bind fun b=>if b then (if (a.2.2.length:Int) !=(a.2.1.length:Int) then (some false) else (aJ (aj (oO a) aP 0) (fun r=>some r) (fun c=>some true))) else (some false)
def cJ (a:Int×(List Bool)×(List (List Int))):Option Bool:=
 if decide ((a.2.1.length:Int)<=12) then ((qK (a.1,a.2.1,a.2.2)).bind fun b=>some b) else (some false)
def jQ (b:(List Int)×Yq1) (a:Int×(List Bool)×(List (List Int))) (c:Int) (d:Int):Option Bool:=
 (bS (b.1,b.2)).bind fun e=>if e then ((cJ (a.1,a.2.1,a.2.2)).bind fun f=>if f then ((cn c 0 (i64.wrap ((b.1.length:Int) - 1))).bind fun g=>if g then ((cn d 0 (i64.wrap ((a.2.1.length:Int) - 1))).bind fun h=>some h) else (some false)) else (some false)) else (some false)
def dI (b:Int×(List Bool)×(List (List Int))) (c:Int) (a:Int×Int):Option zF:=
 if decide (a.1≥0) then ((chk (0<=a.1)).bind fun _=>if (wE (rq a.2 a.1) 1)==0 then ((chk (0<=a.1)).bind fun _=>(aK b.2.2 a.1).bind fun d=>(aK d (i64.wrap (6+c))).bind fun e=>some (.nxt (e,orI a.2 (AP 1 a.1)))) else (some (.brk (a.1,a.2)))) else (some (.brk (a.1,a.2)))
def cU (a:Int×(List Bool)×(List (List Int))) (b:Int) (c:Int):Option Int:=
 aJ (aj (dI a c) aP (b,0)) (fun r=>some r) (fun d=>some d.2)
def mT (b:(List Int)×Yq1) (c:Int) (a:(List (Int×Bool))×Int):Option (Out (List (Int×Bool)) ((List (Int×Bool))×Int)):=
 if decide (a.2<(b.2.length:Int)) then (Option.bind ((Option.bind (((aK b.2 a.2).bind fun e=>if e.2.1==c then ((aK b.2 a.2).bind fun f=>(cr 16 a.1 ([(f.1,false)])).bind fun g=>some g) else (some a.1):Option (List (Int×Bool)))) (fun d=>(aK b.2 a.2).bind fun h=>if h.2.2.1==c then ((aK b.2 a.2).bind fun i=>(cr 16 d ([(i.1,true)])).bind fun j=>some j) else (some d)):Option (List (Int×Bool)))) (fun k=>some (.nxt (k,i64.wrap (a.2+1))))) else (some (.brk (a.1,a.2)))
def sE (a:(List Int)×Yq1) (b:Int):Option (List (Int×Bool)):=
 aJ (aj (mT a b) aP (([] :List (Int×Bool)),0)) (fun r=>some r) (fun c=>some c.1)
def pA (b:(List Int)×Yq1) (c:Int) (a:Int):Option (Out Int Int):=
 if decide (a<(b.2.length:Int)) then ((aK b.2 a).bind fun d=>if d.1==c then (some (.ret a)) else (some (.nxt (i64.wrap (a+1))))) else (some (.brk a))
def kC (a:(List Int)×Yq1) (b:Int):Option Int:=
 aJ (aj (pA a b) aP 0) (fun r=>some r) (fun c=>some (-1))
def iG (a:Int×Int×Int×Int) (b:Bool):Option Int:=
 if b then (some (i64.wrap ((i64.wrap (2*a.2.2.2))+1))) else (some (i64.wrap (2*a.2.2.2)))
def qL (a:Int×Int×Int×Int) (b:Bool):Option Int:=
 if b then (some a.2.1) else (some a.2.2.1)
def jR (d:Int×(List Bool)×(List (List Int))) (e:Int) (f:List (Int×Bool)) (g:(List Em)×Int) (b:Int×Int×Int×Int) (a:Int×Int):Option (Out (List Em) (Int×Int)):=
 if decide (a.2<(d.2.1.length:Int)) then (Option.bind (((aK d.2.2 a.2).bind fun h=>(aK f g.2).bind fun i=>(iG (b.1,b.2.1,b.2.2.1,b.2.2.2) i.2).bind fun j=>(aK h j).bind fun c=>(chk (0<=a.2)).bind fun _=>if (wE (rq e a.2) 1)==1 then (if decide (c≥0) then ((chk (0<=c)).bind fun _=>some (orI a.1 (AP 1 c))) else (some a.1)) else (some a.1):Option Int)) (fun k=>some (.nxt (k,i64.wrap (a.2+1))))) else (some (.brk (a.1,a.2)))
def jS (f:Int×(List Bool)×(List (List Int))) (c:List (Int×Bool)) (d:(List Em)×Int) (b:Int×Int×Int×Int) (g:Int×Int) (a:(List Em)×Int):Option (Out (List Em) ((List Em)×Int)):=
 if decide (a.2<(f.2.1.length:Int)) then (Option.bind (((chk (0<=a.2)).bind fun _=>if (wE (rq g.1 a.2) 1)==1 then ((aK c d.2).bind fun e=>(aK c d.2).bind fun h=>(qL (b.1,b.2.1,b.2.2.1,b.2.2.2) h.2).bind fun i=>(cr 32 a.1 ([((e.1,e.2),i,a.2)])).bind fun j=>some j) else (some a.1):Option (List Em))) (fun k=>some (.nxt (k,i64.wrap (a.2+1))))) else (some (.brk (a.1,a.2)))
def jT (c:(List Int)×Yq1) (d:Int×(List Bool)×(List (List Int))) (f:Int) (b:List (Int×Bool)) (a:(List Em)×Int):Option (Out (List Em) ((List Em)×Int)):=
 if decide (a.2<(b.length:Int)) then ((aK b a.2).bind fun g=>(kC (c.1,c.2) g.1).bind fun h=>(aK c.2 h).bind fun e=>aJ (aj (jR d f b a e) aP (0,0)) (fun r=>some (.ret r)) (fun i=>aJ (aj (jS d b a e i) aP (a.1,0)) (fun r=>some (.ret r)) (fun j=>some (.nxt (j.1,i64.wrap (a.2+1)))))) else (some (.brk (a.1,a.2)))
def o6 (a:(List Int)×Yq1) (b:Int×(List Bool)×(List (List Int))) (c:Int) (d:Int):Option (List Em):=
 (aK a.1 c).bind fun e=>(cU (b.1,b.2.1,b.2.2) d e).bind fun f=>(sE (a.1,a.2) c).bind fun g=>aJ (aj (jT a b f g) aP (([] :List Em),0)) (fun r=>some r) (fun h=>some h.1)
def jU (b:(List Int)×Yq1) (c:Int×(List Bool)×(List (List Int))) (a:(List Int)×Int):Option Vm:=
 if decide (a.2<i64.wrap ((b.1.length:Int)*(c.2.1.length:Int))) then ((cr 8 a.1 ([-1])).bind fun d=>some (.nxt (d,i64.wrap (a.2+1)))) else (some (.brk (a.1,a.2)))
def jV (b:Int×(List Bool)×(List (List Int))) (g:(List Int)×(List Int)×Int) (e:List Em) (a:(List Int)×(List Int)×Int):Option (Out (List Int) ((List Int)×(List Int)×Int)):=
 if decide (a.2.2<(e.length:Int)) then (Option.bind (((aK e a.2.2).bind fun c=>(aK e a.2.2).bind fun d=>(aK a.1 (i64.wrap ((i64.wrap (c.2.1*(b.2.1.length:Int)))+d.2.2))).bind fun h=>if decide (h<0) then ((aK a.2.1 g.2.2).bind fun i=>(aK a.1 i).bind fun j=>(aK a.1 (i64.wrap ((i64.wrap (c.2.1*(b.2.1.length:Int)))+d.2.2))).bind fun l=>(cr 8 a.2.1 ([i64.wrap ((i64.wrap (c.2.1*(b.2.1.length:Int)))+d.2.2)])).bind fun k=>some (a.1.set (i64.wrap ((i64.wrap (c.2.1*(b.2.1.length:Int)))+d.2.2)).toNat (i64.wrap (j+1)),k)) else (some (a.1,a.2.1)):Option ((List Int)×(List Int)))) (fun f=>some (.nxt (f.1,f.2,i64.wrap (a.2.2+1))))) else (some (.brk (a.1,a.2.1,a.2.2)))
def jW (c:(List Int)×Yq1) (b:Int×(List Bool)×(List (List Int))) (a:(List Int)×(List Int)×Int):Option (Out (List Int) ((List Int)×(List Int)×Int)):=
 if decide (a.2.2<(a.2.1.length:Int)) then ((aK a.2.1 a.2.2).bind fun e=>(chk ((b.2.1.length:Int)≠0)).bind fun _=>(aK a.2.1 a.2.2).bind fun f=>(chk ((b.2.1.length:Int)≠0)).bind fun _=>(o6 (c.1,c.2) (b.1,b.2.1,b.2.2) (Hr e (b.2.1.length:Int)) (Int.tmod f (b.2.1.length:Int))).bind fun g=>aJ (aj (jV b a g) aP (a.1,a.2.1,0)) (fun r=>some (.ret r)) (fun d=>some (.nxt (d.1,d.2.1,i64.wrap (a.2.2+1))))) else (some (.brk (a.1,a.2.1,a.2.2)))
def o7 (b:(List Int)×Yq1) (a:Int×(List Bool)×(List (List Int))) (c:Int):Option (List Int):=
 aJ (aj (jU b a) aP (([] :List Int),0)) (fun r=>some r) (fun d=>(aK ([i64.wrap ((i64.wrap (c*(a.2.1.length:Int)))+a.1)]) 0).bind fun e=>(aK d.1 e).bind fun g=>aJ (aj (jW b a) aP (d.1.set e.toNat 0,[i64.wrap ((i64.wrap (c*(a.2.1.length:Int)))+a.1)],0)) (fun r=>some r) (fun f=>some f.1))
def gQ (b:Int×(List Bool)×(List (List Int))) (c:Int) (a:Int):Option (Out Bool Int):=
 if decide (a<(b.2.1.length:Int)) then ((chk (0<=a)).bind fun _=>if (wE (rq c a) 1)==1 then ((aK b.2.1 a).bind fun d=>if d then (some (.ret true)) else (some (.nxt (i64.wrap (a+1))))) else (some (.nxt (i64.wrap (a+1))))) else (some (.brk a))
def kY (b:(List Int)×Yq1) (a:Int×(List Bool)×(List (List Int))) (c:Int) (d:Int):Option Bool:=
 (aK b.1 c).bind fun e=>(cU (a.1,a.2.1,a.2.2) d e).bind fun f=>aJ (aj (gQ a f) aP 0) (fun r=>some r) (fun g=>some false)
def o8 (b:Int) (a:(List Int)×Int):Option Vm:=
 if decide (a.2<30) then (Option.bind (((chk (0<=a.2)).bind fun _=>if (wE (rq b a.2) 1)==1 then ((cr 8 a.1 ([a.2])).bind fun c=>some c) else (some a.1):Option (List Int))) (fun d=>some (.nxt (d,i64.wrap (a.2+1))))) else (some (.brk (a.1,a.2)))
def zG (a:Int):Option (List Int):=
 aJ (aj (o8 a) aP (([] :List Int),0)) (fun r=>some r) (fun b=>some b.1)
def kZ (c:(List Int)×Yq1) (b:Int×(List Bool)×(List (List Int))) (d:List Int) (a:Int×Int):Option (Out (List Int) (Int×Int)):=
 if decide (a.2<(d.length:Int)) then (Option.bind (((aK d a.2).bind fun e=>if decide (e≥0) then ((chk ((b.2.1.length:Int)≠0)).bind fun _=>(chk ((b.2.1.length:Int)≠0)).bind fun _=>(kY (c.1,c.2) (b.1,b.2.1,b.2.2) (Hr a.2 (b.2.1.length:Int)) (Int.tmod a.2 (b.2.1.length:Int))).bind fun f=>if f then ((chk ((b.2.1.length:Int)≠0)).bind fun _=>(chk (0<=Hr a.2 (b.2.1.length:Int))).bind fun _=>some (orI a.1 (AP 1 (Hr a.2 (b.2.1.length:Int))))) else (some a.1)) else (some a.1):Option Int)) (fun g=>some (.nxt (g,i64.wrap (a.2+1))))) else (some (.brk (a.1,a.2)))
def qM (b:(List Int)×Yq1) (a:Int×(List Bool)×(List (List Int))) (c:Int):Option (List Int):=
 (o7 (b.1,b.2) (a.1,a.2.1,a.2.2) c).bind fun d=>aJ (aj (kZ b a d) aP (0,0)) (fun r=>some r) (fun e=>(zG e.1).bind fun f=>some f)
def nY (c:Yq6×Int) (b:List Int) (a:Yq6×Int):Option (Out Yq6 (Yq6×Int)):=
 if decide (a.2<(b.length:Int)) then ((aK b a.2).bind fun d=>(cr 16 a.1 ([(c.2,d)])).bind fun e=>some (.nxt (e,i64.wrap (a.2+1)))) else (some (.brk (a.1,a.2)))
def dJ (c:(List Int)×Yq1) (b:Int×(List Bool)×(List (List Int))) (a:Yq6×Int):Option (Out Yq6 (Yq6×Int)):=
 if decide (a.2<(c.1.length:Int)) then ((jQ (c.1,c.2) (b.1,b.2.1,b.2.2) 0 0).bind fun d=>if d then ((qM (c.1,c.2) (b.1,b.2.1,b.2.2) a.2).bind fun e=>aJ (aj (nY a e) aP (a.1,0)) (fun r=>some (.ret r)) (fun f=>some (.nxt (f.1,i64.wrap (a.2+1))))) else (some (.brk (a.1,a.2)))) else (some (.brk (a.1,a.2)))
def jf (a:(List Int)×Yq1) (b:Int×(List Bool)×(List (List Int))):Option Yq6:=
 aJ (aj (dJ a b) aP (([] :List (Int×Int)),0)) (fun r=>some r) (fun c=>some c.1)
def cY (c:(List Yq2)×Yq3) (a:(List Int)×Yq1) (d:Int):Option (Yq6×Bool):=
 (eF (c.1,c.2) d).bind fun b=>if b.2 then ((bS (a.1,a.2)).bind fun e=>if e then ((jf (a.1,a.2) (b.1.1,b.1.2.1,b.1.2.2)).bind fun f=>some (f,true)) else (some (([] :List (Int×Int)),false))) else (some (([] :List (Int×Int)),false))
def jX (a:Int×Yq5) (b:Int):Option (HQ×Bool):=
 (m_s_IsValidHistory (a.1,a.2)).bind fun e=>if e then ((bC (a.1,a.2)).bind fun f=>(cn b a.1 f).bind fun g=>if g then ((aK a.2 (i64.wrap (b - a.1))).bind fun c=>(nW (c.1,c.2)).bind fun d=>some ((d.1,d.2),true)) else (some (([],[]),false))) else (some (([],[]),false))
def pY (b:List (Int×Int)) (c:Int×Int) (a:Int):Option (Out Bool Int):=
 if decide (a<(b.length:Int)) then ((aK b a).bind fun d=>if ((d.1==c.1)&&((d.2==c.2)&&true)) then (some (.ret true)) else (some (.nxt (i64.wrap (a+1))))) else (some (.brk a))
def wZ (a:List (Int×Int)) (b:Int×Int):Option Bool:=
 aJ (aj (pY a b) aP 0) (fun r=>some r) (fun c=>some false)
def tM (a:Int×Int) (b:Int×Int):Option Bool:=
 if decide (a.1<b.1) then (some true) else (if a.1==b.1 then (some (decide (a.2<b.2))) else (some false))
def pZ (b:List (Int×Int)) (c:Int×Int) (a:Int):Option (Out Yq6 Int):=
 if decide (a<(b.length:Int)) then ((aK b a).bind fun d=>(tM (d.1,d.2) (c.1,c.2)).bind fun e=>if e then (some (.nxt (i64.wrap (a+1)))) else (some (.brk a))) else (some (.brk a))
def w4 (a:List (Int×Int)) (c:Int×Int):Option Yq6:=
 aJ (aj (pZ a c) aP 0) (fun e=>some e) (fun b=>if decide (b<(a.length:Int)) then ((aK a b).bind fun d=>if Bool.and.match_1 (fun (l:Bool)=>Bool) (d.1==c.1) (fun (m:Unit)=>false) (fun (n:Unit)=>Bool.and.match_1 (fun (o:Bool)=>Bool) (d.2==c.2) (fun (p:Unit)=>false) (fun (q:Unit)=>true)) then (some a) else ((chk (And (0<=b) (b<=(a.length:Int)))).bind fun _=>(cr 16 ([] :List (Int×Int)) ((a.take b.toNat).drop 0)).bind fun f=>(cr 16 f ([(c.1,c.2)])).bind fun g=>(chk (And (0<=b) (b<=(a.length:Int)))).bind fun _=>(cr 16 g ((a.take a.length).drop b.toNat)).bind fun h=>some h)) else ((chk (And (0<=b) (b<=(a.length:Int)))).bind fun _=>(cr 16 ([] :List (Int×Int)) ((a.take b.toNat).drop 0)).bind fun i=>(cr 16 i ([(c.1,c.2)])).bind fun j=>(chk (And (0<=b) (b<=(a.length:Int)))).bind fun _=>(cr 16 j ((a.take a.length).drop b.toNat)).bind fun k=>some k))
def gF (b:List (Int×Int)) (e:List (Int×Int)) (a:Yq6×Int):Option (Out Yq6 (Yq6×Int)):=
 if decide (a.2<(b.length:Int)) then (Option.bind (((aK b a.2).bind fun c=>(wZ e (c.1,c.2)).bind fun f=>if f then (some a.1) else ((aK b a.2).bind fun d=>(w4 a.1 (d.1,d.2)).bind fun g=>some g):Option Yq6)) (fun h=>some (.nxt (h,i64.wrap (a.2+1))))) else (some (.brk (a.1,a.2)))
def gR (a:List (Int×Int)) (b:List (Int×Int)):Option Yq6:=
 aJ (aj (gF a b) aP (([] :List (Int×Int)),0)) (fun r=>some r) (fun c=>some c.1)
def lF (a:List (Int×Int)) (b:List (Int×Int)):Option KN:=
 (gR b a).bind fun c=>(gR a b).bind fun d=>some (c,d)
def jg (a:Int×Yq5) (b:(List Yq2)×Yq3) (c:Int×Int×Int) (d:Int):Option (Int×Bool×KN):=
 (jX (a.1,a.2) d).bind fun e=>(cY (b.1,b.2) (e.1.1,e.1.2) c.2.1).bind fun f=>if decide (c.2.2<a.1) then (some (d,true,(f.1,[]))) else ((jX (a.1,a.2) c.2.2).bind fun g=>(cY (b.1,b.2) (g.1.1,g.1.2) c.2.1).bind fun i=>(lF i.1 f.1).bind fun h=>some (d,false,(h.1,h.2)))
def eY (b:Int×List ((List Int)×List Yq4)) (c:(List (Int×(List Bool)×List (List Int)))×List (Int×Yq1×Int)) (a:Int×Int×Int):Option ((Int×Bool×Yq6×List (Int×Int))×Yq8×Bool):=
 (nX (b.1,b.2) (c.1,c.2) (a.1,a.2.1,a.2.2)).bind fun e=>if e then ((jg (b.1,b.2) (c.1,c.2) (a.1,a.2.1,a.2.2) (Max.max b.1 (i64.wrap (a.2.2+1)))).bind fun d=>some ((d.1,d.2.1,d.2.2.1,d.2.2.2),(a.1,a.2.1,Max.max b.1 (i64.wrap (a.2.2+1))),true)) else (some ((0,false,([] :List (Int×Int)),([] :List (Int×Int))),(a.1,a.2.1,a.2.2),false))
def oP (b:(Int×Yq5)×Yq9×(List Yq8)×ByteArray) (f:Int):Option (aeD×(Int×Bool×KN)×Bool):=
 (tK ((b.1.1,b.1.2),(b.2.1.1,b.2.1.2),b.2.2.1,b.2.2.2)).bind fun a=>(tL b.2.2.1 f).bind fun d=>(kB ((b.1.1,b.1.2),(b.2.1.1,b.2.1.2),b.2.2.1,b.2.2.2)).bind fun g=>if g then (if decide (d<0) then (some (((a.1.1,a.1.2),(a.2.1.1,a.2.1.2),a.2.2.1,a.2.2.2),(0,false,([],[])),false)) else ((aK b.2.2.1 d).bind fun e=>(eY (b.1.1,b.1.2) (b.2.1.1,b.2.1.2) (e.1,e.2.1,e.2.2)).bind fun c=>if c.2.2 then ((aK a.2.2.1 d).bind fun h=>some (((a.1.1,a.1.2),(a.2.1.1,a.2.1.2),a.2.2.1.set d.toNat (c.2.1.1,c.2.1.2.1,c.2.1.2.2),a.2.2.2),(c.1.1,c.1.2.1,(c.1.2.2.1,c.1.2.2.2)),true)) else (some (((a.1.1,a.1.2),(a.2.1.1,a.2.1.2),a.2.2.1,a.2.2.2),(0,false,([],[])),false)))) else (some (((a.1.1,a.1.2),(a.2.1.1,a.2.1.2),a.2.2.1,a.2.2.2),(0,false,([],[])),false))
def bN (a:Int) (b:Int) (c:Int):Option Bool:=
 if decide (a≥b) then (some (decide (a<=c))) else (some false)
def mb (a:Int×Int×Int×Int) (b:Int):Option Bool:=
 (bN a.1 1 99).bind fun c=>if c then ((bN a.2.1 0 (i64.wrap (b - 1))).bind fun d=>if d then ((bN a.2.2.1 0 (i64.wrap (b - 1))).bind fun e=>if e then ((bN a.2.2.2 0 2).bind fun f=>some f) else (some false)) else (some false)) else (some false)
def eZ (b:(List Int)×Yq1) (a:Int):Option (Out Bool Int):=
 if decide (a<(b.1.length:Int)) then ((aK b.1 a).bind fun c=>(bN c 0 2).bind fun d=>if d then (some (.nxt (i64.wrap (a+1)))) else (some (.ret false))) else (some (.brk a))
def dK (c:(List Int)×Yq1) (a:Int):Option (Out Bool Int):=
 if decide (a<(c.2.length:Int)) then ((aK c.2 a).bind fun b=>(mb (b.1,b.2.1,b.2.2.1,b.2.2.2) (c.1.length:Int)).bind fun d=>if d then (if decide (a>0) then ((aK c.2 (i64.wrap (a - 1))).bind fun e=>if decide (e.1≥b.1) then (some (.ret false)) else (some (.nxt (i64.wrap (a+1))))) else (some (.nxt (i64.wrap (a+1))))) else (some (.ret false))) else (some (.brk a))
def ba (a:(List Int)×Yq1):Option Bool:=
 aJ (aj (eZ a) aP 0) (fun r=>some r) (fun c=>aJ (aj (dK a) aP 0) (fun r=>some r) (fun d=>(bN (a.1.length:Int) 1 5).bind fun b=>if b then (some (decide ((a.2.length:Int)<=12))) else (some false)))
def cZ (b:List Int) (c:List Int) (a:Int):Option (Out Bool Int):=
 if decide (a<(b.length:Int)) then ((aK b a).bind fun d=>(aK c a).bind fun e=>if d !=e then (some (.ret false)) else (some (.nxt (i64.wrap (a+1))))) else (some (.brk a))
def cH (a:List Int) (b:List Int):Option Bool:=
 if (a.length:Int) !=(b.length:Int) then (some false) else (aJ (aj (cZ a b) aP 0) (fun r=>some r) (fun c=>some true))
def fL (b:Int×Yq5) (a:Int):Option (Out Bool Int):=
 if decide (a<(b.2.length:Int)) then ((aK b.2 a).bind fun c=>(ba (c.1,c.2)).bind fun d=>if d then ((aK b.2 0).bind fun e=>(cH c.1 e.1).bind fun f=>if f then (some (.nxt (i64.wrap (a+1)))) else (some (.ret false))) else (some (.ret false))) else (some (.brk a))
def m_i_IsValidHistory (a:Int×Yq5):Option Bool:=
 (bN (a.2.length:Int) 1 8).bind fun b=>if b then ((bN a.1 1 (i64.wrap ((i64.wrap (999 - (a.2.length:Int)))+1))).bind fun c=>if c then (aJ (aj (fL a) aP 0) (fun r=>some r) (fun d=>some true)) else (some false)) else (some false)
def im (a:Yq1):Option Yq1:=
 (cr 32 ([] :List Yq4) a).bind fun b=>some b
def mc (a:Int):Option Bool:=
 (bN a 0 8).bind fun b=>some b
def tN (a:Int×Int×Int×Int):Option Bool:=
 if a.1==3 then ((mc a.2.1).bind fun b=>if b then (if a.2.2.1==0 then (some (a.2.2.2==0)) else (some false)) else (some false)) else (if a.1==7 then (if a.2.1==0 then ((bN a.2.2.1 0 a.2.2.2).bind fun c=>if c then ((bN a.2.2.2 1 3).bind fun d=>some d) else (some false)) else (some false)) else (Option.bind ((if a.1==1 then (some (a.1==1)) else (if a.1==2 then (some (a.1==2)) else (if a.1==4 then (some (a.1==4)) else (if a.1==5 then (some (a.1==5)) else (some (a.1==6))))):Option Bool)) (fun e=>if e then (some ((a.1==a.1)&&((a.2.1==0)&&((a.2.2.1==0)&&((a.2.2.2==0)&&true))))) else (some false))))
def tO (d:List Yq4) (a:(List (Tr Yq4))×Int):Option (Out (Tr Yq4) ((List (Tr Yq4))×Int)):=
 if decide (a.2<(d.length:Int)) then ((aK d a.2).bind fun b=>Option.bind ((Option.bind ((if b.1==4 then (some (b.1==4)) else (some (b.1==5)):Option Bool)) (fun e=>if e then (some 2) else (Option.bind ((if b.1==6 then (some (b.1==6)) else (some (b.1==7)):Option Bool)) (fun f=>if f then (some 1) else (some 0)))):Option Int)) (fun c=>(tN (b.1,b.2.1,b.2.2.1,b.2.2.2)).bind fun g=>if g then (if decide ((i64.wrap ((a.1.length:Int) - c))<0) then (some (.ret Tr.nil)) else ((chk (And (0<=(i64.wrap ((a.1.length:Int) - c))) ((i64.wrap ((a.1.length:Int) - c))<=(a.1.length:Int)))).bind fun _=>(cr 8 ([] :List (Tr Yq4)) (a.1.drop ((i64.wrap ((a.1.length:Int) - c)).toNat))).bind fun h=>(chk (And (0<=(i64.wrap ((a.1.length:Int) - c))) ((i64.wrap ((a.1.length:Int) - c))<=(a.1.length:Int)))).bind fun _=>(cr 8 (a.1.take ((i64.wrap ((a.1.length:Int) - c)).toNat)) ([Tr.node (b.1,b.2.1,b.2.2.1,b.2.2.2) h])).bind fun i=>some (.nxt (i,i64.wrap (a.2+1))))) else (some (.ret Tr.nil)))) else (some (.brk (a.1,a.2)))
def qo (b:List Yq4):Option (Tr Yq4):=
 aJ (aj (tO b) aP (([] :List (Tr Yq4)),0)) (fun c=>some c) (fun a=>if (a.1.length:Int) !=1 then (some Tr.nil) else ((aK a.1 0).bind fun d=>some d))
def w5 (a:List Yq4):Option Bool:=
 (qo a).bind fun b=>some (cond.match_1 (fun (c:Bool)=>Bool) (Tr.isNil b) (fun (d:Unit)=>false) (fun (e:Unit)=>true))
def mU (a:Yq1):Option Bool:=
 if decide ((a.length:Int)<=24) then ((w5 a).bind fun b=>some b) else (some false)
def dL (mrec:(Tr Yq4)->Option Int) (b:Tr Yq4) (c:Yq4×List (Tr Yq4)) (a:Int×Int):Option zF:=
 if decide (a.2<(c.2.length:Int)) then (Option.bind (((aK c.2 a.2).bind fun d=>(Tr.get b).bind fun j=>(Tr.get b).bind fun e=>if e.1.1==7 then ((mrec d).bind fun f=>(Tr.get b).bind fun k=>(Tr.get b).bind fun g=>some (i64.wrap (a.1+(i64.wrap ((i64.wrap (f+3))*g.1.2.2.2))))) else ((mrec d).bind fun h=>some (i64.wrap (a.1+h))):Option Int)) (fun i=>some (.nxt (i,i64.wrap (a.2+1))))) else (some (.brk (a.1,a.2)))
def cV:Nat->(Tr Yq4)->Option Int
 | 0,_=>none
 | n+1,p0x =>
  (Tr.get p0x).bind fun d=>(Tr.get p0x).bind fun a=>aJ (aj (dL (cV n) p0x a) aP (1,0)) (fun b=>some b) (fun c=>some (Min.min c.1 100000))
def Jt (a:Int):Option (Tr Yq4):=
 some (Tr.node (a,0,0,0) ([] :List (Tr Yq4)))
def o9:Nat->(Tr Yq4)->Int->Int->Option (Tr Yq4)
 | 0,_,_,_=>none
 | n+1,p0x,p1low,p2high =>
  if p2high==0 then ((Jt 2).bind fun b=>some b) else (((o9 n) p0x (Max.max 0 (i64.wrap (p1low - 1))) (i64.wrap (p2high - 1))).bind fun a=>if decide (p1low>0) then (some (Tr.node (4,0,0,0) ([p0x,a]))) else ((Jt 2).bind fun c=>some (Tr.node (5,0,0,0) ([Tr.node (4,0,0,0) ([p0x,a]),c]))))
def eG (mrec:(Tr Yq4)->Option (Tr Yq4)) (b:Yq4×List (Tr Yq4)) (a:Int×Int×Int×Int×Int×List (Tr Yq4)):Option (Out (Tr Yq4) (Int×Int×Int×Int×Int×List (Tr Yq4))):=
 if decide (a.1<(b.2.length:Int)) then ((aK b.2 a.1).bind fun c=>(mrec c).bind fun d=>(cr 8 a.2.2.2.2.2 ([d])).bind fun e=>some (.nxt (i64.wrap (a.1+1),a.2.1,a.2.2.1,a.2.2.2.1,a.2.2.2.2.1,e))) else (some (.brk (a.1,a.2.1,a.2.2.1,a.2.2.2.1,a.2.2.2.2.1,a.2.2.2.2.2)))
def ct:Nat->(Tr Yq4)->Option (Tr Yq4)
 | 0,_=>none
 | n+1,p0x =>
  (Tr.get p0x).bind fun l=>(Tr.get p0x).bind fun c=>if c.1.1==7 then ((Tr.get p0x).bind fun m=>(Tr.get p0x).bind fun d=>(aK d.2 0).bind fun e=>((ct n) e).bind fun f=>(Tr.get p0x).bind fun o=>(Tr.get p0x).bind fun g=>(Tr.get p0x).bind fun p=>(Tr.get p0x).bind fun h=>(o9 iU f g.1.2.2.1 h.1.2.2.2).bind fun i=>some i) else ((Tr.get p0x).bind fun q=>(Tr.get p0x).bind fun b=>(Tr.get p0x).bind fun r=>(Tr.get p0x).bind fun j=>aJ (aj (eG (ct n) j) aP (0,b.1.1,b.1.2.1,b.1.2.2.1,b.1.2.2.2,([] :List (Tr Yq4)))) (fun k=>some k) (fun a=>some (Tr.node (a.2.1,a.2.2.1,a.2.2.2.1,a.2.2.2.2.1) a.2.2.2.2.2)))
def da (mrec:(Tr Yq4)->Yq1->Option Yq1) (b:Yq4×List (Tr Yq4)) (a:Int×List Yq4):Option (Out Yq1 (Int×List Yq4)):=
 if decide (a.1<(b.2.length:Int)) then ((aK b.2 a.1).bind fun c=>(mrec c a.2).bind fun d=>some (.nxt (i64.wrap (a.1+1),d))) else (some (.brk (a.1,a.2)))
def b8:Nat->(Tr Yq4)->Yq1->Option Yq1 
 | 0,_,_=>none
 | n+1,p0x,p1out =>
  (Tr.get p0x).bind fun f=>(Tr.get p0x).bind fun b=>aJ (aj (da (b8 n) b) aP (0,p1out)) (fun c=>some c) (fun d=>(Tr.get p0x).bind fun g=>(Tr.get p0x).bind fun a=>(cr 32 d.2 ([(a.1.1,a.1.2.1,a.1.2.2.1,a.1.2.2.2)])).bind fun e=>some e)
def tP (a:Tr Yq4):Option Yq1:=
 (b8 iU a ([] :List Yq4)).bind fun b=>some b
def oQ (a:List Yq4):Option (Yq1×Bool):=
 (mU a).bind fun d=>if d then ((qo a).bind fun b=>(cV iU b).bind fun e=>if decide (e>5000) then (some (([] :List Yq4),false)) else ((ct iU b).bind fun f=>(tP f).bind fun c=>if decide ((c.length:Int)>400) then (some (([] :List Yq4),false)) else (some (c,true)))) else (some (([] :List Yq4),false))
def dy (b:(List Int)×Int×Int×(List Int)×Bool) (c:Int) (d:Int) (a:Int×List Int):Option (Out Xh (Int×List Int)):=
 if decide (a.1<(b.2.2.2.1.length:Int)) then (Option.bind (((chk (0<=a.1)).bind fun _=>if (wE (rq c a.1) 1)==1 then ((aK a.2 a.1).bind fun e=>(aK a.2 a.1).bind fun g=>some (a.2.set a.1.toNat (orI e d))) else (some a.2):Option (List Int))) (fun f=>some (.nxt (i64.wrap (a.1+1),f)))) else (some (.brk (a.1,a.2)))
def eL (a:(List Int)×Int×Int×(List Int)×Bool) (b:Int) (c:Int):Option Xh:=
 aJ (aj (dy a b c) aP (0,a.2.2.2.1)) (fun d=>some d) (fun e=>some (a.1,a.2.1,a.2.2.1,e.2,a.2.2.2.2))
def bG:Nat->Xh->(Tr Yq4)->Option ((Int×Int×Bool)×(List Int)×Int×Int×(List Int)×Bool)
 | 0,_,_=>none
 | n+1,p0,p1 =>
  (Tr.get p1).bind fun A=>(Tr.get p1).bind fun i=>if i.1.1==2 then (some ((0,0,true),p0.1,p0.2.1,p0.2.2.1,p0.2.2.2.1,p0.2.2.2.2)) else (if i.1.1==3 then ((Tr.get p1).bind fun B=>(Tr.get p1).bind fun m=>(cr 8 p0.1 ([m.1.2.1])).bind fun o=>(cr 8 p0.2.2.2.1 ([0])).bind fun p=>some ((AP 1 (p0.1.length:Int),AP 1 (p0.1.length:Int),false),o,p0.2.1,p0.2.2.1,p,p0.2.2.2.2)) else (if i.1.1==5 then ((Tr.get p1).bind fun C=>(Tr.get p1).bind fun q=>(aK q.2 0).bind fun r=>((bG n) (p0.1,p0.2.1,p0.2.2.1,p0.2.2.2.1,p0.2.2.2.2) r).bind fun f=>(Tr.get p1).bind fun D=>(Tr.get p1).bind fun s=>(aK s.2 1).bind fun t=>((bG n) f.2 t).bind fun b=>if f.1.2.2 then (some ((orI f.1.1 b.1.1,orI f.1.2.1 b.1.2.1,true),b.2.1,b.2.2.1,b.2.2.2.1,b.2.2.2.2.1,b.2.2.2.2.2)) else (some ((orI f.1.1 b.1.1,orI f.1.2.1 b.1.2.1,b.1.2.2),b.2.1,b.2.2.1,b.2.2.2.1,b.2.2.2.2.1,b.2.2.2.2.2))) else (if i.1.1==4 then ((Tr.get p1).bind fun E=>(Tr.get p1).bind fun u=>(aK u.2 0).bind fun v=>((bG n) (p0.1,p0.2.1,p0.2.2.1,p0.2.2.2.1,p0.2.2.2.2) v).bind fun c=>(Tr.get p1).bind fun F=>(Tr.get p1).bind fun w=>(aK w.2 1).bind fun x=>((bG n) c.2 x).bind fun a=>(eL (a.2.1,a.2.2.1,a.2.2.2.1,a.2.2.2.2.1,a.2.2.2.2.2) c.1.2.1 a.1.1).bind fun d=>if c.1.2.2 then (Option.bind ((if c.1.2.2 then (some (orI c.1.1 a.1.1,a.1.2.1,a.1.2.2)) else (some (c.1.1,a.1.2.1,a.1.2.2)):Option (Int×Int×Bool))) (fun g=>Option.bind ((if a.1.2.2 then (some (g.1,orI g.2.1 c.1.2.1,g.2.2)) else (some (g.1,g.2.1,g.2.2)):Option (Int×Int×Bool))) (fun k=>some ((k.1,k.2.1,k.2.2),d.1,d.2.1,d.2.2.1,d.2.2.2.1,d.2.2.2.2)))) else (Option.bind ((if c.1.2.2 then (some (orI c.1.1 a.1.1,a.1.2.1,false)) else (some (c.1.1,a.1.2.1,false)):Option (Int×Int×Bool))) (fun h=>Option.bind ((if a.1.2.2 then (some (h.1,orI h.2.1 c.1.2.1,h.2.2)) else (some (h.1,h.2.1,h.2.2)):Option (Int×Int×Bool))) (fun l=>some ((l.1,l.2.1,l.2.2),d.1,d.2.1,d.2.2.1,d.2.2.2.1,d.2.2.2.2))))) else (if i.1.1==6 then ((Tr.get p1).bind fun G=>(Tr.get p1).bind fun y=>(aK y.2 0).bind fun z=>((bG n) (p0.1,p0.2.1,p0.2.2.1,p0.2.2.2.1,p0.2.2.2.2) z).bind fun e=>(eL (e.2.1,e.2.2.1,e.2.2.2.1,e.2.2.2.2.1,e.2.2.2.2.2) e.1.2.1 e.1.1).bind fun j=>some ((e.1.1,e.1.2.1,true),j.1,j.2.1,j.2.2.1,j.2.2.2.1,j.2.2.2.2)) else (some ((0,0,false),p0.1,p0.2.1,p0.2.2.1,p0.2.2.2.1,p0.2.2.2.2))))))
def dZ (b:Yq1×Bool) (a:Int×Int):Option (Out (Xh×Bool) (Int×Int)):=
 if decide (a.2<(b.1.length:Int)) then (Option.bind (((aK b.1 a.2).bind fun c=>if c.1==3 then (some (i64.wrap (a.1+1))) else (some a.1):Option Int)) (fun d=>some (.nxt (d,i64.wrap (a.2+1))))) else (some (.brk (a.1,a.2)))
def jq (c:List Yq4):Option (Xh×Bool):=
 (oQ c).bind fun b=>if b.2 then (aJ (aj (dZ b) aP (0,0)) (fun d=>some d) (fun e=>if decide (e.1>20) then (some ((([] :List Int),0,0,([] :List Int),false),false)) else ((qo b.1).bind fun f=>(bG iU (([] :List Int),0,0,([] :List Int),false) f).bind fun a=>some ((a.2.1,a.1.1,a.1.2.1,a.2.2.2.2.1,a.1.2.2),true)))) else (some ((([] :List Int),0,0,([] :List Int),false),false))
def e7 (e:Int->Int->Option (Int×Bool)) (f:(List Int)×Yq6×Int×Int×(List Bool)×(List (List Int))) (a:(List Int)×Yq6×(List Int)×Int):Option (Out (Yq2×Bool) ((List Int)×Yq6×(List Int)×Int)):=
 if decide (a.2.2.2<9) then (Option.bind (((aK a.1 f.2.2.1).bind fun g=>(e g a.2.2.2).bind fun b=>if b.2 then ((chk (iOk b.1=true)).bind fun _=>Option.bind ((if (lkM a.2.1 b.1).isSome then (some (a.1,a.2.1,(lkM a.2.1 b.1).getD 0)) else ((Xb a.2.1 iOk iOk b.1 (a.1.length:Int)).bind fun m37=>(cr 8 a.1 ([b.1])).bind fun h=>some (h,m37,(a.1.length:Int))):Option ((List Int)×Yq6×Int))) (fun c=>(cr 8 a.2.2.1 ([c.2.2])).bind fun i=>some (c.1,c.2.1,i))) else ((cr 8 a.2.2.1 ([-1])).bind fun j=>some (a.1,a.2.1,j)):Option ((List Int)×Yq6×(List Int)))) (fun d=>some (.nxt (d.1,d.2.1,d.2.2,i64.wrap (a.2.2.2+1))))) else (some (.brk (a.1,a.2.1,a.2.2.1,a.2.2.2)))
def cw (c:Int) (d:Int->Option Bool) (e:Int->Int->Option (Int×Bool)) (a:(List Int)×Yq6×Int×Int×(List Bool)×(List (List Int))):Option (Out (Yq2×Bool) ((List Int)×Yq6×Int×Int×(List Bool)×(List (List Int)))):=
 if decide (a.2.2.1<(a.1.length:Int)) then (aJ (aj (e7 e a) aP (a.1,a.2.1,([] :List Int),0)) (fun r=>some (.ret r)) (fun b=>if decide ((b.1.length:Int)>c) then (some (.ret ((0,[],[]),false))) else ((aK b.1 a.2.2.1).bind fun f=>(d f).bind fun g=>(cr 1 a.2.2.2.2.1 ([g])).bind fun h=>(cr 24 a.2.2.2.2.2 ([b.2.2.1])).bind fun i=>some (.nxt (b.1,b.2.1,i64.wrap (a.2.2.1+1),a.2.2.2.1,h,i))))) else (some (.brk (a.1,a.2.1,a.2.2.1,a.2.2.2.1,a.2.2.2.2.1,a.2.2.2.2.2)))
def fC (b:Int) (c:Int) (d:Int->Option Bool) (e:Int->Int->Option (Int×Bool)):Option (Yq2×Bool):=
 (Xb ([] :List (Int×Int)) iOk iOk b 0).bind fun m1=>aJ (aj (cw c d e) aP ([b],m1,0,0,[],[])) (fun r=>some r) (fun a=>some ((a.2.2.2.1,a.2.2.2.2.1,a.2.2.2.2.2),true))
def ej (a:(List Int)×Int×Int×(List Int)×Bool) (b:Int):Option Bool:=
 if (wE b 1)==1 then (if a.2.2.2.2 then (some true) else (some ((wE (rq b 1) a.2.2.1) !=0))) else (some ((wE (rq b 1) a.2.2.1) !=0))
def dE (b:(List Int)×Int×Int×(List Int)×Bool) (c:Int) (a:Int×Int):Option zF:=
 if decide (a.2<(b.2.2.2.1.length:Int)) then (Option.bind (((aK b.2.2.2.1 a.2).bind fun d=>(chk (0<=i64.wrap (a.2+1))).bind fun _=>if (wE (rq c (i64.wrap (a.2+1))) 1)==1 then (some (orI a.1 d)) else (some a.1):Option Int)) (fun e=>some (.nxt (e,i64.wrap (a.2+1))))) else (some (.brk (a.1,a.2)))
def dF (b:(List Int)×Int×Int×(List Int)×Bool) (c:Int) (d:Int×Int) (a:Int×Int):Option zF:=
 if decide (a.2<(b.1.length:Int)) then (Option.bind (((aK b.1 a.2).bind fun e=>if e==c then ((chk (0<=a.2)).bind fun _=>if (wE (rq d.1 a.2) 1)==1 then ((chk (0<=i64.wrap (a.2+1))).bind fun _=>some (orI a.1 (AP 1 (i64.wrap (a.2+1))))) else (some a.1)) else (some a.1):Option Int)) (fun f=>some (.nxt (f,i64.wrap (a.2+1))))) else (some (.brk (a.1,a.2)))
def iH (a:(List Int)×Int×Int×(List Int)×Bool) (b:Int) (c:Int):Option Int:=
 Option.bind ((if (wE b 1)==1 then (some a.2.1) else (some 0):Option Int)) (fun d=>aJ (aj (dE a b) aP (d,0)) (fun r=>some r) (fun e=>aJ (aj (dF a c e) aP (0,0)) (fun r=>some r) (fun f=>some f.1)))
def dM (b:Int) (c:Int) (q0:(List Int)×Int×Int×(List Int)×Bool):Option (Int×Bool):=
 (iH (q0.1,q0.2.1,q0.2.2.1,q0.2.2.2.1,q0.2.2.2.2) b c).bind fun a=>some (a,a !=0)
def jY (a:(List Int)×Int×Int×(List Int)×Bool) (c:Int):Option (Yq2×Bool):=
 (fC 1 c (fun a0=>ej (a.1,a.2.1,a.2.2.1,a.2.2.2.1,a.2.2.2.2) a0) (fun a0 a1=>dM a0 a1 (a.1,a.2.1,a.2.2.1,a.2.2.2.1,a.2.2.2.2))).bind fun b=>some ((b.1.1,b.1.2.1,b.1.2.2),b.2)
def ep (b:Bool×Int×List Bool) (c:List Int) (a:Bool×Int×List Bool):Option (Out (List Bool) (Bool×Int×List Bool)):=
 if decide (a.2.1<(c.length:Int)) then (Option.bind (((aK c a.2.1).bind fun d=>if decide (d≥0) then ((aK a.2.2 d).bind fun f=>if f then ((aK a.2.2 b.2.1).bind fun g=>if g then (some (a.1,a.2.2)) else ((aK a.2.2 b.2.1).bind fun h=>some (true,a.2.2.set b.2.1.toNat true))) else (some (a.1,a.2.2))) else (some (a.1,a.2.2)):Option (Bool×List Bool))) (fun e=>some (.nxt (e.1,i64.wrap (a.2.1+1),e.2)))) else (some (.brk (a.1,a.2.1,a.2.2)))
def eu (b:Int×(List Bool)×List (List Int)) (a:Bool×Int×List Bool):Option (Out (List Bool) (Bool×Int×List Bool)):=
 if decide (a.2.1<(b.2.2.length:Int)) then ((aK b.2.2 a.2.1).bind fun d=>aJ (aj (ep a d) aP (a.1,0,a.2.2)) (fun e=>some (.ret e)) (fun c=>some (.nxt (c.1,i64.wrap (a.2.1+1),c.2.2)))) else (some (.brk (a.1,a.2.1,a.2.2)))
def jZ (c:Int×(List Bool)×List (List Int)) (a:Bool×List Bool):Option (Out (List Bool) (Bool×List Bool)):=
 if a.1 then (aJ (aj (eu c) aP (false,0,a.2)) (fun d=>some (.ret d)) (fun b=>some (.nxt (b.1,b.2.2)))) else (some (.brk (a.1,a.2)))
def fM (a:Int×(List Bool)×List (List Int)):Option (List Bool):=
 (cr 1 ([] :List Bool) a.2.1).bind fun b=>aJ (aj (jZ a) aP (true,b)) (fun c=>some c) (fun d=>some d.2)
def cK (b:List (List Int)) (c:(List Int)->Option Bool) (a:Int):Option (Out Int Int):=
 if decide (a<(b.length:Int)) then ((aK b a).bind fun d=>(c d).bind fun e=>if e then (some (.ret a)) else (some (.nxt (i64.wrap (a+1))))) else (some (.brk a))
def b9 (a:List (List Int)) (b:(List Int)->Option Bool):Option Int:=
 aJ (aj (cK a b) aP 0) (fun r=>some r) (fun c=>some (-1))
def jk (a:List Int) (q0:List Int):Option Bool:=
 (cH a q0).bind fun b=>some b
def dz (d:List Int) (c:List Int) (a:Int×(List Int)):Option (Out ((List Int)×Int) (Int×(List Int))):=
 if decide (a.1<(c.length:Int)) then ((aK c a.1).bind fun b=>Option.bind ((if decide (b≥0) then ((aK d b).bind fun e=>some e) else (some b):Option Int)) (fun f=>(cr 8 a.2 ([f])).bind fun g=>some (.nxt (i64.wrap (a.1+1),g)))) else (some (.brk (a.1,a.2)))
def eO (h:Int×(List Bool)×(List (List Int))) (b:List Int) (a:(List (List Int))×(List Int)×Int):Option (Out ((List Int)×Int) ((List (List Int))×(List Int)×Int)):=
 if decide (a.2.2<(b.length:Int)) then (Option.bind (((aK b a.2.2).bind fun c=>if decide (c<0) then ((cr 8 a.2.1 ([-1])).bind fun i=>some (a.1,i)) else ((aK h.2.2 a.2.2).bind fun j=>aJ (aj (dz b j) aP (0,[c])) (fun _=>none) (fun d=>(b9 a.1 (fun a0=>jk a0 d.2)).bind fun e=>Option.bind ((if decide (e<0) then ((cr 24 a.1 ([d.2])).bind fun k=>some (k,(a.1.length:Int))) else (some (a.1,e)):Option ((List (List Int))×Int))) (fun f=>(cr 8 a.2.1 ([f.2])).bind fun l=>some (f.1,l)))):Option ((List (List Int))×(List Int)))) (fun g=>some (.nxt (g.1,g.2,i64.wrap (a.2.2+1))))) else (some (.brk (a.1,a.2.1,a.2.2)))
def eM (b:Int×(List Bool)×(List (List Int))) (c:List Int):Option ((List Int)×Int):=
 aJ (aj (eO b c) aP (([] :List (List Int)),([] :List Int),0)) (fun r=>some r) (fun a=>some (a.2.1,(a.1.length:Int)))
def de (c:Int×(List Bool)×(List (List Int))) (b:List Bool) (a:(List Int)×Int):Option Vm:=
 if decide (a.2<(b.length:Int)) then (Option.bind (((aK b a.2).bind fun d=>if d then ((aK c.2.1 a.2).bind fun e=>if e then ((cr 8 a.1 ([1])).bind fun f=>some f) else ((cr 8 a.1 ([0])).bind fun g=>some g)) else ((cr 8 a.1 ([-1])).bind fun h=>some h):Option (List Int))) (fun i=>some (.nxt (i,i64.wrap (a.2+1))))) else (some (.brk (a.1,a.2)))
def gS (b:Int×(List Bool)×(List (List Int))) (c:(List Int)×Int):Option Vm:=
 (eM (b.1,b.2.1,b.2.2) c.1).bind fun a=>if a.2==c.2 then (some (.ret a.1)) else (some (.nxt (a.1,a.2)))
def ez (a:Int×(List Bool)×(List (List Int))):Option (List Int):=
 (fM (a.1,a.2.1,a.2.2)).bind fun b=>aJ (aj (de a b) aP (([] :List Int),0)) (fun r=>some r) (fun c=>aJ (aj (gS a) aP (c.1,-1)) (fun r=>some r) (fun d=>none))
def yC (a:Int) (b:Int):Option (Int×Int):=
 some (IntKind.u32.wrap (rq (IntKind.u64.wrap ((IntKind.u64.wrap a)*(IntKind.u64.wrap b))) 32),IntKind.u32.wrap (IntKind.u64.wrap ((IntKind.u64.wrap a)*(IntKind.u64.wrap b))))
def qN (a:Int) (b:Int):Option (Int×Int):=
 some (IntKind.u64.wrap ((IntKind.u64.wrap ((IntKind.u64.wrap ((rq a 32)*(rq b 32)))+(rq (IntKind.u64.wrap ((IntKind.u64.wrap ((rq a 32)*(Xc b 4294967295)))+(rq (IntKind.u64.wrap ((Xc a 4294967295)*(Xc b 4294967295))) 32))) 32)))+(rq (IntKind.u64.wrap ((Xc (IntKind.u64.wrap ((IntKind.u64.wrap ((rq a 32)*(Xc b 4294967295)))+(rq (IntKind.u64.wrap ((Xc a 4294967295)*(Xc b 4294967295))) 32))) 4294967295)+(IntKind.u64.wrap ((Xc a 4294967295)*(rq b 32))))) 32)),IntKind.u64.wrap (a*b))
def sF (b:Int) (c:Int):Option (Int×Int):=
 (qN b c).bind fun a=>some (a.1,a.2)
def pa (a:Int×List Int):Option (Out (List Int) (Int×List Int)):=
 if decide (a.1<(a.2.length:Int)) then ((chk (And (0<=a.1) (a.1<=(a.2.length:Int)))).bind fun _=>(chk (And (0<=a.1) (a.1<=(a.2.length:Int)))).bind fun _=>(chk (And (0<=a.1) (a.1<=(a.2.length:Int)))).bind fun _=>(chk (And (0<=a.1) (a.1<=(a.2.length:Int)))).bind fun _=>some (.nxt (i64.wrap (a.1+((Min.min ((a.2.take a.1.toNat).length) (a.2.length - a.1.toNat):Nat):Int)),KM a.2 a.1.toNat (a.2.take a.1.toNat)))) else (some (.brk (a.1,a.2)))
def cx (a:List Int) (c:Int):Option (List Int):=
 if decide (c<0) then (none) else ((sF (IntKind.u64.wrap (a.length:Int)) (IntKind.u64.wrap c)).bind fun b=>if decide (b.1>0) then (none) else (if decide (b.2>9223372036854775807) then (none) else ((mkI 8 (i64.wrap b.2) 0).bind fun d=>aJ (aj (pa) aP (((Min.min a.length (d.length - 0):Nat):Int),KM d 0 a)) (fun e=>some e) (fun f=>some f.2))))
def yD:Option Yq2:=
 (cx ([-1]) 9).bind fun a=>some (0,[false],[a])
def eJ (b:List Int) (c:Int) (a:Int):Option (Out Int Int):=
 if decide (a<(b.length:Int)) then ((aK b a).bind fun d=>if c==d then (some (.ret a)) else (some (.nxt (i64.wrap (a+1))))) else (some (.brk a))
def fx (a:List Int) (b:Int):Option Int:=
 aJ (aj (eJ a b) aP 0) (fun r=>some r) (fun c=>some (-1))
def bc (a:Int) (q0:List Int):Option Int:=
 (fx q0 a).bind fun b=>some b
def df (a:Int) (q0:Int×(List Bool)×(List (List Int))) (q1:Int->Option Int):Option Bool:=
 (q1 a).bind fun b=>(aK q0.2.1 b).bind fun c=>some c
def bX (c:Int×(List Bool)×(List (List Int))) (a:Int) (b:Int):Option Int:=
 if decide (a<0) then (some (-1)) else ((mc b).bind fun d=>if d then ((aK c.2.2 a).bind fun e=>(aK e b).bind fun f=>some f) else (some (-1)))
def dh (b:Int) (c:Int) (q0:Int×(List Bool)×(List (List Int))) (q1:Int->Option Int) (q2:List Int):Option (Int×Bool):=
 (q1 b).bind fun d=>(bX (q0.1,q0.2.1,q0.2.2) d c).bind fun a=>if decide (a<0) then (some (0,false)) else ((aK q2 a).bind fun e=>if decide (e<0) then (some (0,false)) else ((aK q2 a).bind fun f=>some (f,true)))
def cP (a:Int×(List Bool)×(List (List Int))):Option Yq2:=
 (ez (a.1,a.2.1,a.2.2)).bind fun b=>(aK b a.1).bind fun e=>if decide (e<0) then ((yD).bind fun c=>some (c.1,c.2.1,c.2.2)) else ((aK b a.1).bind fun f=>(fC f (b.length:Int) (fun a0=>df a0 (a.1,a.2.1,a.2.2) (fun a0=>bc a0 b)) (fun a0 a1=>dh a0 a1 (a.1,a.2.1,a.2.2) (fun a0=>bc a0 b) b)).bind fun d=>some (d.1.1,d.1.2.1,d.1.2.2))
def En (b:Int×(List Bool)×(List (List Int))):Option (Yq2×Bool):=
 (cP (b.1,b.2.1,b.2.2)).bind fun a=>if decide ((a.2.1.length:Int)>12) then (some ((0,[],[]),false)) else (some ((a.1,a.2.1,a.2.2),true))
def j4 (d:Yq1):Option (Yq2×Bool):=
 (jq d).bind fun a=>if a.2 then ((jY (a.1.1,a.1.2.1,a.1.2.2.1,a.1.2.2.2.1,a.1.2.2.2.2) 200).bind fun b=>if b.2 then ((En (b.1.1,b.1.2.1,b.1.2.2)).bind fun c=>some ((c.1.1,c.1.2.1,c.1.2.2),c.2)) else (some ((0,[],[]),false))) else (some ((0,[],[]),false))
def bT (c:List Yq2) (d:Yq2->Option Bool) (a:Int):Option (Out Int Int):=
 if decide (a<(c.length:Int)) then ((aK c a).bind fun b=>(d (b.1,b.2.1,b.2.2)).bind fun e=>if e then (some (.ret a)) else (some (.nxt (i64.wrap (a+1))))) else (some (.brk a))
def bD (a:List Yq2) (b:Yq2->Option Bool):Option Int:=
 aJ (aj (bT a b) aP 0) (fun r=>some r) (fun c=>some (-1))
def cA (b:List Bool) (c:List Bool) (a:Int):Option (Out Bool Int):=
 if decide (a<(b.length:Int)) then ((aK b a).bind fun d=>(aK c a).bind fun e=>if d !=e then (some (.ret false)) else (some (.nxt (i64.wrap (a+1))))) else (some (.brk a))
def eP (a:List Bool) (b:List Bool):Option Bool:=
 if (a.length:Int) !=(b.length:Int) then (some false) else (aJ (aj (cA a b) aP 0) (fun r=>some r) (fun c=>some true))
def a8 (b:List (List Int)) (c:List (List Int)) (d:(List Int)->(List Int)->Option Bool) (a:Int):Option (Out Bool Int):=
 if decide (a<(b.length:Int)) then ((aK b a).bind fun e=>(aK c a).bind fun f=>(d e f).bind fun g=>if g then (some (.nxt (i64.wrap (a+1)))) else (some (.ret false))) else (some (.brk a))
def bL (a:List (List Int)) (b:List (List Int)) (c:(List Int)->(List Int)->Option Bool):Option Bool:=
 if (a.length:Int) !=(b.length:Int) then (some false) else (aJ (aj (a8 a b c) aP 0) (fun r=>some r) (fun d=>some true))
def iI (a:List Int) (b:List Int):Option Bool:=
 (cH a b).bind fun c=>some c
def eV (a:Int×(List Bool)×(List (List Int))) (b:Int×(List Bool)×(List (List Int))):Option Bool:=
 if a.1==b.1 then ((eP a.2.1 b.2.1).bind fun c=>if c then ((bL a.2.2 b.2.2 (fun a0 a1=>iI a0 a1)).bind fun d=>some d) else (some false)) else (some false)
def pb (a:Int×(List Bool)×(List (List Int))) (q0:Int×(List Bool)×(List (List Int))):Option Bool:=
 (eV (q0.1,q0.2.1,q0.2.2) (a.1,a.2.1,a.2.2)).bind fun b=>some b
def mV (d:List xw) (a:Int×(List Yq2)×Yq3):Option (Out (Yq9×Bool) Xi):=
 if decide (a.1<(d.length:Int)) then ((aK d a.1).bind fun c=>(j4 c.2.1).bind fun b=>if b.2 then ((bN c.1 1 99).bind fun i=>if i then (if decide (a.1>0) then ((aK d (i64.wrap (a.1 - 1))).bind fun j=>if decide (j.1≥c.1) then (some (.ret (([],[]),false))) else ((bD a.2.1 (fun a0=>pb a0 (b.1.1,b.1.2.1,b.1.2.2))).bind fun g=>Option.bind ((if decide (g<0) then ((cr 56 a.2.1 ([(b.1.1,b.1.2.1,b.1.2.2)])).bind fun k=>some ((a.2.1.length:Int),k,a.2.2)) else (some (g,a.2.1,a.2.2)):Option Xi)) (fun e=>(im c.2.1).bind fun l=>(cr 40 e.2.2 ([(c.1,l,e.1)])).bind fun m=>some (.nxt (i64.wrap (a.1+1),e.2.1,m))))) else ((bD a.2.1 (fun a0=>pb a0 (b.1.1,b.1.2.1,b.1.2.2))).bind fun h=>Option.bind ((if decide (h<0) then ((cr 56 a.2.1 ([(b.1.1,b.1.2.1,b.1.2.2)])).bind fun n=>some ((a.2.1.length:Int),n,a.2.2)) else (some (h,a.2.1,a.2.2)):Option Xi)) (fun f=>(im c.2.1).bind fun o=>(cr 40 f.2.2 ([(c.1,o,f.1)])).bind fun p=>some (.nxt (i64.wrap (a.1+1),f.2.1,p))))) else (some (.ret (([],[]),false)))) else (some (.ret (([],[]),false)))) else (some (.brk (a.1,a.2.1,a.2.2)))
def w6 (a:List xw):Option (Yq9×Bool):=
 aJ (aj (mV a) aP (0,[],[])) (fun r=>some r) (fun b=>some ((b.2.1,b.2.2),decide ((a.length:Int)<=4)))
def aR (d:List Yq2) (e:List Yq2) (f:Yq2->Yq2->Option Bool) (a:Int):Option (Out Bool Int):=
 if decide (a<(d.length:Int)) then ((aK d a).bind fun b=>(aK e a).bind fun c=>(f (b.1,b.2.1,b.2.2) (c.1,c.2.1,c.2.2)).bind fun g=>if g then (some (.nxt (i64.wrap (a+1)))) else (some (.ret false))) else (some (.brk a))
def aY (a:List Yq2) (b:List Yq2) (c:Yq2->Yq2->Option Bool):Option Bool:=
 if (a.length:Int) !=(b.length:Int) then (some false) else (aJ (aj (aR a b c) aP 0) (fun r=>some r) (fun d=>some true))
def aO (d:List xw) (e:List xw) (f:xw->xw->Option Bool) (a:Int):Option (Out Bool Int):=
 if decide (a<(d.length:Int)) then ((aK d a).bind fun b=>(aK e a).bind fun c=>(f (b.1,b.2.1,b.2.2) (c.1,c.2.1,c.2.2)).bind fun g=>if g then (some (.nxt (i64.wrap (a+1)))) else (some (.ret false))) else (some (.brk a))
def aV (a:List xw) (b:List xw) (c:xw->xw->Option Bool):Option Bool:=
 if (a.length:Int) !=(b.length:Int) then (some false) else (aJ (aj (aO a b c) aP 0) (fun r=>some r) (fun d=>some true))
def cg (d:List Yq4) (e:List Yq4) (a:Int):Option (Out Bool Int):=
 if decide (a<(d.length:Int)) then ((aK d a).bind fun b=>(aK e a).bind fun c=>if (b.1==c.1)&&((b.2.1==c.2.1)&&((b.2.2.1==c.2.2.1)&&((b.2.2.2==c.2.2.2)&&true))) then (some (.nxt (i64.wrap (a+1)))) else (some (.ret false))) else (some (.brk a))
def eA (a:List Yq4) (b:List Yq4):Option Bool:=
 if (a.length:Int) !=(b.length:Int) then (some false) else (aJ (aj (cg a b) aP 0) (fun r=>some r) (fun c=>some true))
def oR (a:Yq1) (b:Yq1):Option Bool:=
 (eA a b).bind fun c=>some c
def iY (a:Int×(Yq1)×Int) (b:Int×(Yq1)×Int):Option Bool:=
 if a.1==b.1 then ((oR a.2.1 b.2.1).bind fun c=>if c then (some (a.2.2==b.2.2)) else (some false)) else (some false)
def iJ (a:(List Yq2)×Yq3) (b:(List Yq2)×Yq3):Option Bool:=
 (aY a.1 b.1 (fun a0 a1=>eV a0 a1)).bind fun c=>if c then ((aV a.2 b.2 (fun a0 a1=>iY a0 a1)).bind fun d=>some d) else (some false)
def db (a:(List Yq2)×Yq3):Option Bool:=
 (w6 a.2).bind fun b=>if b.2 then ((iJ (b.1.1,b.1.2) (a.1,a.2)).bind fun c=>some c) else (some false)
def cB (a:Int×Yq5):Option Int:=
 (m_i_IsValidHistory (a.1,a.2)).bind fun b=>if b then (some (i64.wrap ((i64.wrap (a.1+(a.2.length:Int))) - 1))) else (some 0)
def bh (c:List xw) (d:xw->Option Bool) (a:Int):Option (Out Int Int):=
 if decide (a<(c.length:Int)) then ((aK c a).bind fun b=>(d (b.1,b.2.1,b.2.2)).bind fun e=>if e then (some (.ret a)) else (some (.nxt (i64.wrap (a+1))))) else (some (.brk a))
def bZ (a:List xw) (b:xw->Option Bool):Option Int:=
 aJ (aj (bh a b) aP 0) (fun r=>some r) (fun c=>some (-1))
def mW (a:Int×(Yq1)×Int) (q0:Int):Option Bool:=
 some (a.1==q0)
def fN (a:(List Yq2)×Yq3) (b:Int):Option Int:=
 (bZ a.2 (fun a0=>mW a0 b)).bind fun c=>some c
def fO (a:ByteArray) (b:Int):Option Int:=R.Ba a b
def di (p0 p1:ByteArray):Option (List ByteArray):=R.Qh p0 p1
def ir (a:ByteArray):Option (Int×Bool):=R.vt a
def dA (p0 p1:ByteArray):Option (ByteArray×ByteArray×Bool):=R.afC p0 p1
def pB (a:Int):Option (ByteArray):=R.Y5 a
def dR (a:Int):Option ByteArray:=
 (pB a).bind fun b=>some b
def k7 (a:Int×Int×Int×Int):Option ByteArray:=
 (mb (a.1,a.2.1,a.2.2.1,a.2.2.2) 5).bind fun b=>if b then ((dR a.1).bind fun c=>(pv c (⟨#[58]⟩)).bind fun d=>(dR a.2.1).bind fun e=>(pv d e).bind fun f=>(vn (⟨#[97,98,99]⟩) a.2.2.2 (i64.wrap (a.2.2.2+1))).bind fun g=>(pv f g).bind fun h=>(dR a.2.2.1).bind fun i=>(pv h i).bind fun j=>some j) else (some ((⟨#[]⟩:ByteArray)))
def iK (b:ByteArray):Option (Yq4×Bool):=
 (dA b (⟨#[58]⟩)).bind fun a=>if ((a.2.1.size:Nat):Int) !=3 then (some ((0,0,0,0),false)) else ((nB a.2.1 0).bind fun c=>(nB a.2.1 1).bind fun d=>(nB a.2.1 2).bind fun e=>(ir a.1).bind fun f=>(k7 (f.1,i64.wrap ((i64.wrap c) - 48),i64.wrap ((i64.wrap e) - 48),i64.wrap ((i64.wrap d) - 97))).bind fun g=>if g !=b then (some ((0,0,0,0),false)) else (some ((f.1,i64.wrap ((i64.wrap c) - 48),i64.wrap ((i64.wrap e) - 48),i64.wrap ((i64.wrap d) - 97)),true)))
def lG (a:List ByteArray) (b:ByteArray):Option (ByteArray):=R.Y4 a b
def fP (d:List Yq7) (a:(List ByteArray)×Int):Option (Out ByteArray ((List ByteArray)×Int)):=
 if decide (a.2<(d.length:Int)) then (Ni (S:=List ByteArray) ((aK d a.2).bind fun b=>(k7 (b.2.1,b.2.2.1,b.2.2.2.1,b.2.2.2.2)).bind fun c=>if c==((⟨#[]⟩:ByteArray)) then (some (.inl (.ret ((⟨#[]⟩:ByteArray))))) else (if b.1 then ((pv (⟨#[43]⟩) c).bind fun e=>(cr 16 a.1 ([e])).bind fun f=>some (.inr f)) else ((pv (⟨#[45]⟩) c).bind fun g=>(cr 16 a.1 ([g])).bind fun h=>some (.inr h)))) (fun i=>some (.nxt (i,i64.wrap (a.2+1))))) else (some (.brk (a.1,a.2)))
def fa (a:List Yq7):Option ByteArray:=
 if decide ((a.length:Int)>6) then (some ((⟨#[]⟩:ByteArray))) else (aJ (aj (fP a) aP (([] :List ByteArray),0)) (fun b=>some b) (fun c=>(lG c.1 (⟨#[32]⟩)).bind fun d=>some d))
def dN (d:List ByteArray) (a:Int×List Yq7):Option (Out ((List Yq7)×Bool) (Int×List Yq7)):=
 if decide (a.1<(d.length:Int)) then ((aK d a.1).bind fun c=>if c==((⟨#[]⟩:ByteArray)) then (some (.ret (([] :List Yq7),false))) else ((vn c 1 ((c.size:Nat):Int)).bind fun e=>(iK e).bind fun b=>if b.2 then ((nB c 0).bind fun f=>(cr 40 a.2 ([(f==43,b.1.1,b.1.2.1,b.1.2.2.1,b.1.2.2.2)])).bind fun g=>some (.nxt (i64.wrap (a.1+1),g))) else (some (.ret (([] :List Yq7),false))))) else (some (.brk (a.1,a.2)))
def gk (a:ByteArray):Option ((List Yq7)×Bool):=
 if a==((⟨#[]⟩:ByteArray)) then (some (([] :List Yq7),true)) else ((di a (⟨#[32]⟩)).bind fun c=>aJ (aj (dN c) aP (0,([] :List Yq7))) (fun d=>some d) (fun b=>(fa b.2).bind fun e=>if e !=a then (some (([] :List Yq7),false)) else (some (b.2,true))))
def qO (b:ByteArray) (a:Int×Int):Option zF:=
 if decide (a.2<((b.size:Nat):Int)) then ((nB b a.2).bind fun c=>some (.nxt (Int.tmod (i64.wrap ((i64.wrap ((i64.wrap (257*a.1))+(i64.wrap c)))+1)) 9973,i64.wrap (a.2+1)))) else (some (.brk (a.1,a.2)))
def me (a:ByteArray):Option Int:=
 aJ (aj (qO a) aP (1,0)) (fun b=>some b) (fun c=>some c.1)
def iZ (a:Int) (c:List Yq7):Option ByteArray:=
 (fa c).bind fun b=>(bN a 1 999).bind fun f=>if f then (if b==((⟨#[]⟩:ByteArray)) then (if decide ((c.length:Int)>0) then (some ((⟨#[]⟩:ByteArray))) else ((dR a).bind fun g=>(pv g (⟨#[59]⟩)).bind fun h=>(pv h b).bind fun i=>(pv i (⟨#[59]⟩)).bind fun d=>(me d).bind fun j=>(dR j).bind fun k=>(pv d k).bind fun l=>(pv l (⟨#[10]⟩)).bind fun m=>some m)) else ((dR a).bind fun n=>(pv n (⟨#[59]⟩)).bind fun o=>(pv o b).bind fun p=>(pv p (⟨#[59]⟩)).bind fun e=>(me e).bind fun q=>(dR q).bind fun r=>(pv e r).bind fun s=>(pv s (⟨#[10]⟩)).bind fun t=>some t)) else (some ((⟨#[]⟩:ByteArray)))
def lH (d:ByteArray):Option (Int×(List Yq7)×Bool):=
 (di d (⟨#[59]⟩)).bind fun a=>if (a.length:Int) !=3 then (some (0,([] :List Yq7),false)) else ((aK a 0).bind fun e=>(ir e).bind fun b=>(aK a 1).bind fun f=>(gk f).bind fun c=>if b.2 then (if c.2 then ((iZ b.1 c.1).bind fun g=>if g !=d then (some (0,([] :List Yq7),false)) else (some (b.1,c.1,true))) else (some (0,([] :List Yq7),false))) else (some (0,([] :List Yq7),false)))
def cW (c:ByteArray) (a:(List Int)×(List (List Yq7))×Int):Option (Out ((List Int)×(List (List Yq7))×Int) ((List Int)×(List (List Yq7))×Int)):=
 if decide (((c.size:Nat):Int)<=4000) then ((vn c a.2.2 ((c.size:Nat):Int)).bind fun e=>(fO e 10).bind fun d=>if decide (d<0) then (some (.brk (a.1,a.2.1,a.2.2))) else ((vn c a.2.2 (i64.wrap ((i64.wrap (a.2.2+d))+1))).bind fun f=>(lH f).bind fun b=>if b.2.2 then (if decide ((a.1.length:Int)>0) then ((aK a.1 (i64.wrap ((a.1.length:Int) - 1))).bind fun g=>if b.1 !=(i64.wrap (g+1)) then (some (.brk (a.1,a.2.1,a.2.2))) else ((cr 8 a.1 ([b.1])).bind fun h=>(cr 24 a.2.1 ([b.2.1])).bind fun i=>some (.nxt (h,i,i64.wrap (a.2.2+(i64.wrap (d+1))))))) else ((cr 8 a.1 ([b.1])).bind fun j=>(cr 24 a.2.1 ([b.2.1])).bind fun k=>some (.nxt (j,k,i64.wrap (a.2.2+(i64.wrap (d+1))))))) else (some (.brk (a.1,a.2.1,a.2.2))))) else (some (.brk (a.1,a.2.1,a.2.2)))
def m_i_ScanLog (b:ByteArray):Option ((List Int)×(List (List Yq7))×Int):=
 aJ (aj (cW b) aP (([] :List Int),([] :List (List Yq7)),0)) (fun c=>some c) (fun a=>some (a.1,a.2.1,a.2.2))
def cL (a:(Int×Yq5)×Yq9×(List Yq8)×ByteArray) (d:Int) (b:Int):Option (Out Bool Int):=
 if decide (b<(a.2.2.1.length:Int)) then ((aK a.2.2.1 b).bind fun c=>(bN c.1 1 99).bind fun e=>if e then (if decide (b>0) then ((aK a.2.2.1 (i64.wrap (b - 1))).bind fun f=>if decide (f.1≥c.1) then (some (.ret false)) else ((fN (a.2.1.1,a.2.1.2) c.2.1).bind fun g=>if decide (g<0) then (some (.ret false)) else ((bN c.2.2 0 d).bind fun h=>if h then (some (.nxt (i64.wrap (b+1)))) else (some (.ret false))))) else ((fN (a.2.1.1,a.2.1.2) c.2.1).bind fun i=>if decide (i<0) then (some (.ret false)) else ((bN c.2.2 0 d).bind fun j=>if j then (some (.nxt (i64.wrap (b+1)))) else (some (.ret false))))) else (some (.ret false))) else (some (.brk b))
def kD (a:(Int×Yq5)×Yq9×(List Yq8)×ByteArray):Option Bool:=
 (m_i_IsValidHistory (a.1.1,a.1.2)).bind fun d=>if d then ((db (a.2.1.1,a.2.1.2)).bind fun e=>if e then (if decide ((a.2.2.1.length:Int)>4) then (some false) else (if decide ((a.2.2.2.size:Int)>4000) then (some false) else ((cB (a.1.1,a.1.2)).bind fun c=>aJ (aj (cL a c) aP 0) (fun r=>some r) (fun g=>(m_i_ScanLog a.2.2.2).bind fun b=>if b.2.2==(a.2.2.2.size:Int) then (if (b.1.length:Int)==0 then (some true) else ((aK b.1 (i64.wrap ((b.1.length:Int) - 1))).bind fun f=>some (f==c))) else (some false))))) else (some false)) else (some false)
def j5 (a:List Int):Option (List Int):=
 (cr 8 ([] :List Int) a).bind fun b=>some b
def iL (a:(List Int)×Yq1):Option HQ:=
 (j5 a.1).bind fun b=>(cr 32 ([] :List Yq4) a.2).bind fun c=>some (b,c)
def fQ (b:Int×Yq5) (a:Int×Int×Yq5):Option (Out (Int×Yq5) (Int×Int×Yq5)):=
 if decide (a.1<(b.2.length:Int)) then ((aK b.2 a.1).bind fun c=>(iL (c.1,c.2)).bind fun d=>(cr 48 a.2.2 ([(d.1,d.2)])).bind fun e=>some (.nxt (i64.wrap (a.1+1),a.2.1,e))) else (some (.brk (a.1,a.2.1,a.2.2)))
def mX (a:Int×Yq5):Option (Int×Yq5):=
 aJ (aj (fQ a) aP (0,a.1,[])) (fun r=>some r) (fun b=>some (b.2.1,b.2.2))
def eN (b:Int×(List Bool)×(List (List Int))) (a:Int×Int×(List Bool)×(List (List Int))):Option (Out Yq2 (Int×Int×(List Bool)×(List (List Int)))):=
 if decide (a.1<(b.2.2.length:Int)) then ((aK b.2.2 a.1).bind fun c=>(j5 c).bind fun d=>(cr 24 a.2.2.2 ([d])).bind fun e=>some (.nxt (i64.wrap (a.1+1),a.2.1,a.2.2.1,e))) else (some (.brk (a.1,a.2.1,a.2.2.1,a.2.2.2)))
def gT (a:Int×(List Bool)×(List (List Int))):Option Yq2:=
 (cr 1 ([] :List Bool) a.2.1).bind fun c=>aJ (aj (eN a) aP (0,a.1,c,[])) (fun r=>some r) (fun b=>some (b.2.1,b.2.2.1,b.2.2.2))
def fb (d:(List Yq2)×Yq3) (a:Int×(List Yq2)×Yq3):Option (Out Yq9 Xi):=
 if decide (a.1<(d.1.length:Int)) then ((aK d.1 a.1).bind fun b=>(gT (b.1,b.2.1,b.2.2)).bind fun c=>(cr 56 a.2.1 ([(c.1,c.2.1,c.2.2)])).bind fun e=>some (.nxt (i64.wrap (a.1+1),e,a.2.2))) else (some (.brk (a.1,a.2.1,a.2.2)))
def fc (c:(List Yq2)×Yq3) (a:Int×(List Yq2)×Yq3):Option (Out Yq9 Xi):=
 if decide (a.1<(c.2.length:Int)) then ((aK c.2 a.1).bind fun b=>(im b.2.1).bind fun d=>(cr 40 a.2.2 ([(b.1,d,b.2.2)])).bind fun e=>some (.nxt (i64.wrap (a.1+1),a.2.1,e))) else (some (.brk (a.1,a.2.1,a.2.2)))
def lI (a:(List Yq2)×Yq3):Option Yq9:=
 aJ (aj (fb a) aP (0,[],[])) (fun r=>some r) (fun b=>aJ (aj (fc a) aP (0,b.2.1,b.2.2)) (fun r=>some r) (fun c=>some (c.2.1,c.2.2)))
def oS (a:(Int×Yq5)×Yq9×(List Yq8)×ByteArray):Option aeD:=
 (mX (a.1.1,a.1.2)).bind fun b=>(lI (a.2.1.1,a.2.1.2)).bind fun c=>(cr 24 ([] :List Yq8) a.2.2.1).bind fun d=>some ((b.1,b.2),(c.1,c.2),d,a.2.2.2)
def bj (c:List Yq8) (d:Yq8->Option Bool) (a:Int):Option (Out Int Int):=
 if decide (a<(c.length:Int)) then ((aK c a).bind fun b=>(d (b.1,b.2.1,b.2.2)).bind fun e=>if e then (some (.ret a)) else (some (.nxt (i64.wrap (a+1))))) else (some (.brk a))
def aT (a:List Yq8) (b:Yq8->Option Bool):Option Int:=
 aJ (aj (bj a b) aP 0) (fun r=>some r) (fun c=>some (-1))
def lJ (a:Int×Int×Int) (q0:Int):Option Bool:=
 some (a.1==q0)
def sj (a:(Int×Yq5)×Yq9×(List Yq8)×ByteArray) (b:Int):Option Int:=
 (aT a.2.2.1 (fun a0=>lJ a0 b)).bind fun c=>some c
def qP (a:Int×Yq5) (b:(List Yq2)×Yq3) (c:Int×Int×Int):Option Bool:=
 (m_i_IsValidHistory (a.1,a.2)).bind fun d=>if d then ((db (b.1,b.2)).bind fun e=>if e then ((fN (b.1,b.2) c.2.1).bind fun f=>if decide (f≥0) then (if decide (c.2.2≥0) then ((cB (a.1,a.2)).bind fun g=>some (decide (c.2.2<g))) else (some false)) else (some false)) else (some false)) else (some false)
def fR (a:(List Yq2)×Yq3) (e:Int):Option (Yq2×Bool):=
 (fN (a.1,a.2) e).bind fun d=>if decide (d<0) then (some ((0,[],[]),false)) else ((db (a.1,a.2)).bind fun f=>if f then ((aK a.2 d).bind fun g=>(aK a.1 g.2.2).bind fun b=>(gT (b.1,b.2.1,b.2.2)).bind fun c=>some ((c.1,c.2.1,c.2.2),true)) else (some ((0,[],[]),false)))
def cC (c:Int×(List Bool)×(List (List Int))) (b:List Int) (a:Int):Option (Out Bool Int):=
 if decide (a<(b.length:Int)) then ((aK b a).bind fun d=>(bN d (-1) (i64.wrap ((c.2.1.length:Int) - 1))).bind fun e=>if e then (some (.nxt (i64.wrap (a+1)))) else (some (.ret false))) else (some (.brk a))
def eQ (b:Int×(List Bool)×(List (List Int))) (a:Int):Option (Out Bool Int):=
 if decide (a<(b.2.2.length:Int)) then ((aK b.2.2 a).bind fun c=>aJ (aj (cC b c) aP 0) (fun r=>some (.ret r)) (fun d=>if (c.length:Int) !=9 then (some (.ret false)) else (some (.nxt (i64.wrap (a+1)))))) else (some (.brk a))
def cd (a:Int×(List Bool)×(List (List Int))):Option Bool:=
 (bN (a.2.1.length:Int) 1 12).bind fun b=>if b then ((bN a.1 0 (i64.wrap ((a.2.1.length:Int) - 1))).bind fun c=>if c then (if (a.2.2.length:Int) !=(a.2.1.length:Int) then (some false) else (aJ (aj (eQ a) aP 0) (fun r=>some r) (fun d=>some true))) else (some false)) else (some false)
def dS (c:(List Int)×Yq1) (b:List Int) (a:Int):Option (Out Bool Int):=
 if decide (a<(b.length:Int)) then ((aK b a).bind fun d=>(bN d 0 (i64.wrap ((c.1.length:Int) - 1))).bind fun e=>if e then (some (.nxt (i64.wrap (a+1)))) else (some (.ret false))) else (some (.brk a))
def cQ (a:(List Int)×Yq1) (b:Int×(List Bool)×(List (List Int))) (c:List Int):Option Bool:=
 aJ (aj (dS a c) aP 0) (fun r=>some r) (fun f=>(ba (a.1,a.2)).bind fun d=>if d then ((cd (b.1,b.2.1,b.2.2)).bind fun e=>some e) else (some false))
def mY (c:List Int) (a:(List Int)×Int×List Int):Option (Out (List Int) ((List Int)×Int×List Int)):=
 if decide (a.2.1<(c.length:Int)) then ((aK c a.2.1).bind fun b=>(aK a.2.2 b).bind fun e=>(cr 8 a.1 ([b])).bind fun d=>some (.nxt (d,i64.wrap (a.2.1+1),a.2.2.set b.toNat 0))) else (some (.brk (a.1,a.2.1,a.2.2)))
def mZ (c:List Int) (a:(List Int)×Int×List Int):Option (Out (List Int) ((List Int)×Int×List Int)):=
 if decide (a.2.1<(c.length:Int)) then (Option.bind (((aK c a.2.1).bind fun b=>(aK a.2.2 b).bind fun e=>if decide (e<0) then ((aK a.1 0).bind fun f=>(aK a.2.2 f).bind fun g=>(aK a.2.2 b).bind fun i=>(cr 8 a.1 ([b])).bind fun h=>some (h,a.2.2.set b.toNat (i64.wrap (g+1)))) else (some (a.1,a.2.2)):Option ((List Int)×List Int))) (fun d=>some (.nxt (d.1,i64.wrap (a.2.1+1),d.2)))) else (some (.brk (a.1,a.2.1,a.2.2)))
def na (c:List (List Int)) (a:(List Int)×List Int):Option (Out (List Int) ((List Int)×List Int)):=
 if decide ((a.1.length:Int)>0) then ((aK a.1 0).bind fun d=>(aK c d).bind fun e=>aJ (aj (mZ e) aP (a.1,0,a.2)) (fun f=>some (.ret f)) (fun b=>(chk (And ((0:Int)<=1) (1<=(b.1.length:Int)))).bind fun _=>some (.nxt (b.1.drop 1,b.2.2)))) else (some (.brk (a.1,a.2)))
def w7 (a:List (List Int)) (c:List Int):Option (List Int):=
 (cx ([(-1)]) (a.length:Int)).bind fun d=>aJ (aj (mY c) aP (([] :List Int),0,d)) (fun e=>some e) (fun b=>aJ (aj (na a) aP (b.1,b.2.2)) (fun f=>some f) (fun g=>some g.2))
def sk (b:Int) (a:(List Int)×Int):Option Vm:=
 (chk (0<=a.2)).bind fun _=>if (rq b a.2) !=0 then (Option.bind (((chk (0<=a.2)).bind fun _=>if (wE (rq b a.2) 1)==1 then ((cr 8 a.1 ([a.2])).bind fun c=>some c) else (some a.1):Option (List Int))) (fun d=>some (.nxt (d,i64.wrap (a.2+1))))) else (some (.brk (a.1,a.2)))
def j6 (a:Int):Option (List Int):=
 aJ (aj (sk a) aP (([] :List Int),0)) (fun r=>some r) (fun b=>some b.1)
def vz (a:Int×Int×Int×Int) (b:Bool):Option Int:=
 if b then (some (i64.wrap ((i64.wrap (2*a.2.2.2))+1))) else (some (i64.wrap (2*a.2.2.2)))
def qQ (d:(List Int)×List Yq4) (b:Int×List (List Em)):Option (Out (List (List Em)) (Int×List (List Em))):=
 if decide (b.1<(d.2.length:Int)) then ((aK d.2 b.1).bind fun a=>(aK b.2 a.2.1).bind fun e=>(vz (a.1,a.2.1,a.2.2.1,a.2.2.2) false).bind fun f=>(cr 32 e ([((a.1,false),f,a.2.2.1)])).bind fun c=>(aK b.2 a.2.1).bind fun j=>(chk (a.2.1<((b.2.set a.2.1.toNat ([] :List Em)).length:Int))).bind fun _=>(chk (a.2.1=a.2.1)).bind fun _=>(aK (b.2.set a.2.1.toNat c) a.2.2.1).bind fun g=>(vz (a.1,a.2.1,a.2.2.1,a.2.2.2) true).bind fun h=>(cr 32 g ([((a.1,true),h,a.2.1)])).bind fun i=>(aK (b.2.set a.2.1.toNat c) a.2.2.1).bind fun k=>(chk (a.2.2.1<(((b.2.set a.2.1.toNat c).set a.2.2.1.toNat ([] :List Em)).length:Int))).bind fun _=>(chk (a.2.2.1=a.2.2.1)).bind fun _=>some (.nxt (i64.wrap (b.1+1),(b.2.set a.2.1.toNat c).set a.2.2.1.toNat i))) else (some (.brk (b.1,b.2)))
def zH (a:(List Int)×List Yq4):Option (List (List Em)):=
 (mkI 24 (a.1.length:Int) ([] :List Em)).bind fun b=>aJ (aj (qQ a) aP (0,b)) (fun c=>some c) (fun d=>some d.2)
def k8 (b:Int×(List Bool)×(List (List Int))) (c:Int) (a:Int×Int):Option zF:=
 if decide (a.2≥0) then ((chk (0<=a.2)).bind fun _=>if (wE (rq a.1 a.2) 1)==0 then ((chk (0<=a.2)).bind fun _=>(bX (b.1,b.2.1,b.2.2) a.2 (i64.wrap (6+c))).bind fun d=>some (.nxt (orI a.1 (AP 1 a.2),d))) else (some (.brk (a.1,a.2)))) else (some (.brk (a.1,a.2)))
def lZ (a:Int×(List Bool)×(List (List Int))) (b:Int) (c:Int):Option Int:=
 aJ (aj (k8 a c) aP (0,b)) (fun r=>some r) (fun d=>some d.1)
def pc (b:Int×(List Bool)×(List (List Int))) (e:Int) (d:List Int) (a:Int×Int):Option zF:=
 if decide (a.2<(d.length:Int)) then (Option.bind (((aK d a.2).bind fun f=>(bX (b.1,b.2.1,b.2.2) f e).bind fun c=>if decide (c≥0) then ((chk (0<=c)).bind fun _=>some (orI a.1 (AP 1 c))) else (some a.1):Option Int)) (fun g=>some (.nxt (g,i64.wrap (a.2+1))))) else (some (.brk (a.1,a.2)))
def j7 (b:Int×(List Bool)×(List (List Int))) (d:Int) (e:Int) (c:List Int) (a:Int×Int):Option zF:=
 if decide (a.2<(c.length:Int)) then ((aK c a.2).bind fun f=>(lZ (b.1,b.2.1,b.2.2) f d).bind fun g=>(j6 g).bind fun h=>aJ (aj (pc b e h) aP (a.1,0)) (fun r=>some (.ret r)) (fun i=>some (.nxt (i.1,i64.wrap (a.2+1))))) else (some (.brk (a.1,a.2)))
def vA (a:Int×(List Bool)×(List (List Int))) (b:Int) (c:Int) (d:Int):Option Int:=
 (j6 b).bind fun e=>aJ (aj (j7 a c d e) aP (0,0)) (fun r=>some r) (fun f=>some f.1)
def dO (b:Int×(List Bool)×List (List Int)) (c:Int×List (List Int)) (d:Int×List (List Int)) (f:(Int×Bool)×Int×Int) (e:List Int) (a:Int×List (List Int)):Option (Out (List (List Int)) (Int×List (List Int))):=
 if decide (a.1<(e.length:Int)) then ((aK e a.1).bind fun g=>(aK a.2 (i64.wrap ((i64.wrap (c.1*(b.2.1.length:Int)))+d.1))).bind fun h=>(cr 8 h ([i64.wrap ((i64.wrap (f.2.2*(b.2.1.length:Int)))+g)])).bind fun i=>(aK a.2 (i64.wrap ((i64.wrap (c.1*(b.2.1.length:Int)))+d.1))).bind fun j=>(chk ((i64.wrap ((i64.wrap (c.1*(b.2.1.length:Int)))+d.1))<((a.2.set ((i64.wrap ((i64.wrap (c.1*(b.2.1.length:Int)))+d.1)).toNat) ([] :List Int)).length:Int))).bind fun _=>(chk ((i64.wrap ((i64.wrap (c.1*(b.2.1.length:Int)))+d.1))=(i64.wrap ((i64.wrap (c.1*(b.2.1.length:Int)))+d.1)))).bind fun _=>some (.nxt (i64.wrap (a.1+1),a.2.set ((i64.wrap ((i64.wrap (c.1*(b.2.1.length:Int)))+d.1)).toNat) i))) else (some (.brk (a.1,a.2)))
def fe (g:(List Int)×List Yq4) (b:Int×(List Bool)×List (List Int)) (d:Int×List (List Int)) (e:List Em) (c:Int×List (List Int)) (a:Int×List (List Int)):Option (Out (List (List Int)) (Int×List (List Int))):=
 if decide (a.1<(e.length:Int)) then ((aK e a.1).bind fun f=>(chk (0<=c.1)).bind fun _=>(aK g.1 d.1).bind fun h=>(vA (b.1,b.2.1,b.2.2) (AP 1 c.1) h f.2.1).bind fun i=>(j6 i).bind fun j=>aJ (aj (dO b d c f j) aP (0,a.2)) (fun k=>some (.ret k)) (fun l=>some (.nxt (i64.wrap (a.1+1),l.2)))) else (some (.brk (a.1,a.2)))
def ff (c:(List Int)×List Yq4) (b:Int×(List Bool)×List (List Int)) (d:Int×List (List Int)) (e:List Em) (a:Int×List (List Int)):Option (Out (List (List Int)) (Int×List (List Int))):=
 if decide (a.1<(b.2.1.length:Int)) then (aJ (aj (fe c b d e a) aP (0,a.2)) (fun f=>some (.ret f)) (fun g=>some (.nxt (i64.wrap (a.1+1),g.2)))) else (some (.brk (a.1,a.2)))
def iM (c:(List Int)×List Yq4) (d:Int×(List Bool)×List (List Int)) (b:List (List Em)) (a:Int×List (List Int)):Option (Out (List (List Int)) (Int×List (List Int))):=
 if decide (a.1<(b.length:Int)) then ((aK b a.1).bind fun e=>aJ (aj (ff c d a e) aP (0,a.2)) (fun f=>some (.ret f)) (fun g=>some (.nxt (i64.wrap (a.1+1),g.2)))) else (some (.brk (a.1,a.2)))
def fD (a:(List Int)×List Yq4) (b:Int×(List Bool)×List (List Int)):Option (List (List Int)):=
 (mkI 24 (i64.wrap ((b.2.1.length:Int)*(a.1.length:Int))) ([] :List Int)).bind fun c=>(zH (a.1,a.2)).bind fun d=>aJ (aj (iM a b d) aP (0,c)) (fun e=>some e) (fun f=>some f.2)
def gU (b:(List Int)×List Yq4) (a:Int×(List Bool)×List (List Int)) (c:Int):Option (List Int):=
 (cQ (b.1,b.2) (a.1,a.2.1,a.2.2) ([c])).bind fun e=>if e then ((fD (b.1,b.2) (a.1,a.2.1,a.2.2)).bind fun f=>(w7 f ([i64.wrap ((i64.wrap (c*(a.2.1.length:Int)))+a.1)])).bind fun d=>((chk (0<(d.length:Int))).bind fun _=>some d).bind fun g=>some g) else (some ([] :List Int))
def lK (c:Int×(List Bool)×(List (List Int))) (b:List Int) (a:Int):Option (Out Bool Int):=
 if decide (a<(b.length:Int)) then ((aK b a).bind fun d=>(aK c.2.1 d).bind fun e=>if e then (some (.ret true)) else (some (.nxt (i64.wrap (a+1))))) else (some (.brk a))
def fE (a:Int×(List Bool)×(List (List Int))) (d:Int) (c:List Int) (b:Int):Option (Out Bool Int):=
 if decide (b<(c.length:Int)) then ((aK c b).bind fun e=>(lZ (a.1,a.2.1,a.2.2) e d).bind fun f=>(j6 f).bind fun g=>aJ (aj (lK a g) aP 0) (fun r=>some (.ret r)) (fun h=>some (.nxt (i64.wrap (b+1))))) else (some (.brk b))
def nc (a:Int×(List Bool)×(List (List Int))) (b:Int) (c:Int):Option Bool:=
 (j6 b).bind fun d=>aJ (aj (fE a c d) aP 0) (fun r=>some r) (fun e=>some false)
def gl (a:List Int):Option (List Int):=R.Y3 a
def cD (c:List Int) (b:Int) (a:Int×Int×List Int):Option (Out (List Int) (Int×Int×List Int)):=
 if decide (a.2.1<((0+((c.length:Int) - 0)) - (0+b))) then (Option.bind (((chk (And (0<=a.2.1) (a.2.1<((0+((c.length:Int) - 0)) - (0+b))))).bind fun _=>(aK a.2.2 ((0+b)+a.2.1)).bind fun e=>(chk (And (0<=(i64.wrap (a.2.1 - 1))) ((i64.wrap (a.2.1 - 1))<((0+((c.length:Int) - 0)) - (0+b))))).bind fun _=>(aK a.2.2 ((0+b)+(i64.wrap (a.2.1 - 1)))).bind fun f=>if e !=f then ((chk (And (0<=a.2.1) (a.2.1<((0+((c.length:Int) - 0)) - (0+b))))).bind fun _=>(aK a.2.2 ((0+b)+a.2.1)).bind fun g=>(aK a.2.2 a.1).bind fun h=>some (i64.wrap (a.1+1),a.2.2.set a.1.toNat g)) else (some (a.1,a.2.2)):Option (Int×List Int))) (fun d=>some (.nxt (d.1,i64.wrap (a.2.1+1),d.2)))) else (some (.brk (a.1,a.2.1,a.2.2)))
def bU (c:List Int) (b:Int):Option (Out (List Int) Int):=
 if decide (b<(c.length:Int)) then ((aK c b).bind fun d=>(aK c (i64.wrap (b - 1))).bind fun e=>if d==e then ((chk (And (0<=b) (And (b<=((c.length:Int) - 0)) ((0+((c.length:Int) - 0))<=(c.length:Int))))).bind fun _=>aJ (aj (cD c b) aP (b,1,c)) (fun f=>some (.ret f)) (fun a=>(chk (And (0<=a.1) (And (a.1<=((a.2.2.length:Int) - 0)) ((0+((a.2.2.length:Int) - 0))<=(a.2.2.length:Int))))).bind fun _=>(chk (And ((0+a.1)<=(0+((a.2.2.length:Int) - 0))) ((0+((a.2.2.length:Int) - 0))<=(a.2.2.length:Int)))).bind fun _=>(chk (And ((0:Int)<=0) (And (0<=a.1) ((0+a.1)<=((tu a.2.2 ((0+a.1).toNat) ((0+((a.2.2.length:Int) - 0)).toNat) 0).length:Int))))).bind fun _=>some (.ret (((tu a.2.2 ((0+a.1).toNat) ((0+((a.2.2.length:Int) - 0)).toNat) 0).take ((0+a.1).toNat)).drop 0)))) else (some (.nxt (i64.wrap (b+1))))) else (some (.brk b))
def dj (a:List Int):Option (List Int):=
 if decide ((a.length:Int)<2) then (some a) else (aJ (aj (bU a) aP 1) (fun b=>some b) (fun c=>some a))
def nf (a:List Int):Option (List Int):=
 (j5 a).bind fun b=>(gl b).bind fun c=>(dj c).bind fun d=>some d
def zI (a:(List Int)×Int):Option Vm:=
 if decide (a.2<((0:Nat):Int)) then (none) else (some (.brk (a.1,a.2)))
def fS (d:(List Int)×List Yq4) (b:Int×(List Bool)×List (List Int)) (c:List Int) (a:(List Int)×Int):Option Vm:=
 if decide (a.2<(c.length:Int)) then (Option.bind (((aK c a.2).bind fun e=>if decide (e≥0) then ((chk ((b.2.1.length:Int)≠0)).bind fun _=>(chk (0<=(Int.tmod a.2 (b.2.1.length:Int)))).bind fun _=>(chk ((b.2.1.length:Int)≠0)).bind fun _=>(aK d.1 (Hr a.2 (b.2.1.length:Int))).bind fun f=>(nc (b.1,b.2.1,b.2.2) (AP 1 (Int.tmod a.2 (b.2.1.length:Int))) f).bind fun g=>if g then ((chk ((b.2.1.length:Int)≠0)).bind fun _=>(cr 8 a.1 ([Hr a.2 (b.2.1.length:Int)])).bind fun h=>some h) else (some a.1)) else (some a.1):Option (List Int))) (fun i=>some (.nxt (i,i64.wrap (a.2+1))))) else (some (.brk (a.1,a.2)))
def j8 (b:(List Int)×List Yq4) (a:Int×(List Bool)×List (List Int)) (d:Int):Option (List Int):=
 (gU (b.1,b.2) (a.1,a.2.1,a.2.2) d).bind fun c=>if decide ((c.length:Int)=0) then (aJ (aj (zI) aP (([] :List Int),0)) (fun e=>some e) (fun f=>(nf f.1).bind fun g=>some g)) else (aJ (aj (fS b a c) aP (([] :List Int),0)) (fun h=>some h) (fun i=>(nf i.1).bind fun j=>some j))
def nZ (c:Yq6×Int) (b:List Int) (a:Yq6×Int):Option (Out Yq6 (Yq6×Int)):=
 if decide (a.2<(b.length:Int)) then ((aK b a.2).bind fun d=>(cr 16 a.1 ([(c.2,d)])).bind fun e=>some (.nxt (e,i64.wrap (a.2+1)))) else (some (.brk (a.1,a.2)))
def gV (b:(List Int)×Yq1) (c:Int×(List Bool)×(List (List Int))) (a:Yq6×Int):Option (Out Yq6 (Yq6×Int)):=
 if decide (a.2<(b.1.length:Int)) then ((j8 (b.1,b.2) (c.1,c.2.1,c.2.2) a.2).bind fun d=>aJ (aj (nZ a d) aP (a.1,0)) (fun r=>some (.ret r)) (fun e=>some (.nxt (e.1,i64.wrap (a.2+1))))) else (some (.brk (a.1,a.2)))
def gm (b:(List Int)×Yq1) (a:Int×(List Bool)×(List (List Int))):Option Yq6:=
 (cQ (b.1,b.2) (a.1,a.2.1,a.2.2) ([])).bind fun c=>if c then (aJ (aj (gV b a) aP (([] :List (Int×Int)),0)) (fun r=>some r) (fun d=>some d.1)) else (some ([]))
def fF (c:(List Yq2)×Yq3) (a:(List Int)×Yq1) (d:Int):Option (Yq6×Bool):=
 (fR (c.1,c.2) d).bind fun b=>if b.2 then ((ba (a.1,a.2)).bind fun e=>if e then ((gm (a.1,a.2) (b.1.1,b.1.2.1,b.1.2.2)).bind fun f=>some (f,true)) else (some ([],false))) else (some ([],false))
def qR (a:Int×Yq5) (b:Int):Option (HQ×Bool):=
 (m_i_IsValidHistory (a.1,a.2)).bind fun e=>if e then ((cB (a.1,a.2)).bind fun f=>(bN b a.1 f).bind fun g=>if g then ((aK a.2 (i64.wrap (b - a.1))).bind fun c=>(iL (c.1,c.2)).bind fun d=>some ((d.1,d.2),true)) else (some (([],[]),false))) else (some (([],[]),false))
def iN (b:Int×Yq5) (c:(List Yq2)×Yq3) (e:Int) (f:Int):Option (Yq6×Bool):=
 (qR (b.1,b.2) f).bind fun a=>if a.2 then ((fF (c.1,c.2) (a.1.1,a.1.2) e).bind fun d=>some (d.1,d.2)) else (some ([],false))
def b7 (b:List (Int×Int)) (d:(Int×Int)->Option Bool) (a:Int):Option (Out Int Int):=
 if decide (a<(b.length:Int)) then ((aK b a).bind fun c=>(d (c.1,c.2)).bind fun e=>if e then (some (.ret a)) else (some (.nxt (i64.wrap (a+1))))) else (some (.brk a))
def bP (a:List (Int×Int)) (b:(Int×Int)->Option Bool):Option Int:=
 aJ (aj (b7 a b) aP 0) (fun r=>some r) (fun c=>some (-1))
def bY (d:(Int×Int)->Option Bool) (a:Int×Int×List (Int×Int)):Option (Out Yq6 (Int×Int×List (Int×Int))):=
 if decide (a.2.1<(a.2.2.length:Int)) then (Option.bind (((aK a.2.2 a.2.1).bind fun b=>(d (b.1,b.2)).bind fun e=>if e then (some (a.1,a.2.2)) else ((aK a.2.2 a.1).bind fun f=>some (i64.wrap (a.1+1),a.2.2.set a.1.toNat (b.1,b.2))):Option (Int×List (Int×Int)))) (fun c=>some (.nxt (c.1,i64.wrap (a.2.1+1),c.2)))) else (some (.brk (a.1,a.2.1,a.2.2)))
def cj (b:List (Int×Int)) (d:(Int×Int)->Option Bool):Option Yq6:=
 (bP b d).bind fun c=>if c==(-1) then (some b) else (aJ (aj (bY d) aP (c,i64.wrap (c+1),b)) (fun e=>some e) (fun a=>(chk (And (0<=a.1) (And (a.1<=((a.2.2.length:Int) - 0)) ((0+((a.2.2.length:Int) - 0))<=(a.2.2.length:Int))))).bind fun _=>(chk (And ((0+a.1)<=(0+((a.2.2.length:Int) - 0))) ((0+((a.2.2.length:Int) - 0))<=(a.2.2.length:Int)))).bind fun _=>(chk (And ((0:Int)<=0) (And (0<=a.1) ((0+a.1)<=((tu a.2.2 ((0+a.1).toNat) ((0+((a.2.2.length:Int) - 0)).toNat) (0,0)).length:Int))))).bind fun _=>some (((tu a.2.2 ((0+a.1).toNat) ((0+((a.2.2.length:Int) - 0)).toNat) (0,0)).take ((0+a.1).toNat)).drop 0)))
def dP (a:List (Int×Int)) (b:Unit):Option Yq6:=R.Y0 R.RN a
def qS (a:Int) (b:Int):Option Int:=
 if decide (a<b) then (some (-1)) else (if decide (a>b) then (some 1) else (some 0))
def CI (a:Int×Int) (b:Int×Int):Option Int:=
 if a.1 !=b.1 then ((qS a.1 b.1).bind fun c=>some c) else ((qS a.2 b.2).bind fun d=>some d)
def cm (c:List (Int×Int)) (b:Int) (a:Int×Int×List (Int×Int)):Option (Out Yq6 (Int×Int×List (Int×Int))):=
 if decide (a.2.1<((0+((c.length:Int) - 0)) - (0+b))) then (Option.bind (((chk (And (0<=a.2.1) (a.2.1<((0+((c.length:Int) - 0)) - (0+b))))).bind fun _=>(aK a.2.2 ((0+b)+a.2.1)).bind fun d=>(chk (And (0<=(i64.wrap (a.2.1 - 1))) ((i64.wrap (a.2.1 - 1))<((0+((c.length:Int) - 0)) - (0+b))))).bind fun _=>(aK a.2.2 ((0+b)+(i64.wrap (a.2.1 - 1)))).bind fun e=>if Bool.and.match_1 (fun (h:Bool)=>Bool) (d.1==e.1) (fun (i:Unit)=>false) (fun (j:Unit)=>Bool.and.match_1 (fun (k:Bool)=>Bool) (d.2==e.2) (fun (l:Unit)=>false) (fun (m:Unit)=>true)) then (some (a.1,a.2.2)) else ((chk (And (0<=a.2.1) (a.2.1<((0+((c.length:Int) - 0)) - (0+b))))).bind fun _=>(aK a.2.2 ((0+b)+a.2.1)).bind fun f=>(aK a.2.2 a.1).bind fun n=>some (i64.wrap (a.1+1),a.2.2.set a.1.toNat (f.1,f.2))):Option (Int×List (Int×Int)))) (fun g=>some (.nxt (g.1,i64.wrap (a.2.1+1),g.2)))) else (some (.brk (a.1,a.2.1,a.2.2)))
def bM (c:List (Int×Int)) (b:Int):Option (Out Yq6 Int):=
 if decide (b<(c.length:Int)) then ((aK c b).bind fun d=>(aK c (i64.wrap (b - 1))).bind fun e=>if Bool.and.match_1 (fun (g:Bool)=>Bool) (d.1==e.1) (fun (h:Unit)=>false) (fun (i:Unit)=>Bool.and.match_1 (fun (j:Bool)=>Bool) (d.2==e.2) (fun (k:Unit)=>false) (fun (l:Unit)=>true)) then ((chk (And (0<=b) (And (b<=((c.length:Int) - 0)) ((0+((c.length:Int) - 0))<=(c.length:Int))))).bind fun _=>aJ (aj (cm c b) aP (b,1,c)) (fun f=>some (.ret f)) (fun a=>(chk (And (0<=a.1) (And (a.1<=((a.2.2.length:Int) - 0)) ((0+((a.2.2.length:Int) - 0))<=(a.2.2.length:Int))))).bind fun _=>(chk (And ((0+a.1)<=(0+((a.2.2.length:Int) - 0))) ((0+((a.2.2.length:Int) - 0))<=(a.2.2.length:Int)))).bind fun _=>(chk (And ((0:Int)<=0) (And (0<=a.1) ((0+a.1)<=((tu a.2.2 ((0+a.1).toNat) ((0+((a.2.2.length:Int) - 0)).toNat) (0,0)).length:Int))))).bind fun _=>some (.ret (((tu a.2.2 ((0+a.1).toNat) ((0+((a.2.2.length:Int) - 0)).toNat) (0,0)).take ((0+a.1).toNat)).drop 0)))) else (some (.nxt (i64.wrap (b+1))))) else (some (.brk b))
def cM (a:List (Int×Int)):Option Yq6:=
 if decide ((a.length:Int)<2) then (some a) else (aJ (aj (bM a) aP 1) (fun b=>some b) (fun c=>some a))
def tQ (a:List (Int×Int)):Option Yq6:=
 (cr 16 ([] :List (Int×Int)) a).bind fun b=>(dP b ()).bind fun c=>(cM c).bind fun d=>some d
def cE (b:List (Int×Int)) (c:Int×Int) (a:Int):Option (Out Int Int):=
 if decide (a<(b.length:Int)) then ((aK b a).bind fun d=>if ((c.1==d.1)&&((c.2==d.2)&&true)) then (some (.ret a)) else (some (.nxt (i64.wrap (a+1))))) else (some (.brk a))
def dk (a:List (Int×Int)) (b:Int×Int):Option Int:=
 aJ (aj (cE a b) aP 0) (fun r=>some r) (fun c=>some (-1))
def cF (b:List (Int×Int)) (a:Int×Int):Option Bool:=
 (dk b (a.1,a.2)).bind fun c=>some (decide (c≥0))
def l5 (a:Int×Int) (q0:List (Int×Int)):Option Bool:=
 (cF q0 (a.1,a.2)).bind fun b=>some b
def gW (a:List (Int×Int)) (b:List (Int×Int)):Option Yq6:=
 (tQ a).bind fun c=>(cj c (fun (d:Int×Int)=>l5 d b)).bind fun e=>some e
def lL (a:List (Int×Int)) (b:List (Int×Int)):Option KN:=
 (gW b a).bind fun c=>(gW a b).bind fun d=>some (c,d)
def qT (b:Int×List ((List Int)×List Yq4)) (c:(List (Int×(List Bool)×List (List Int)))×List (Int×Yq1×Int)) (a:Int×Int×Int) (d:Int):Option ((Int×Bool×Yq6×List (Int×Int))×Yq8×Bool):=
 (iN (b.1,b.2) (c.1,c.2) a.2.1 d).bind fun f=>Option.bind ((if decide (a.2.2<b.1) then (some (d,true,f.1,([] :List (Int×Int)))) else ((iN (b.1,b.2) (c.1,c.2) a.2.1 a.2.2).bind fun h=>(lL h.1 f.1).bind fun g=>some (d,false,g.1,g.2)):Option (Int×Bool×Yq6×List (Int×Int)))) (fun e=>some ((e.1,e.2.1,e.2.2.1,e.2.2.2),(a.1,a.2.1,d),true))
def j9 (c:Int×List ((List Int)×List Yq4)) (d:(List (Int×(List Bool)×List (List Int)))×List (Int×Yq1×Int)) (a:Int×Int×Int):Option ((Int×Bool×Yq6×List (Int×Int))×Yq8×Bool):=
 (qP (c.1,c.2) (d.1,d.2) (a.1,a.2.1,a.2.2)).bind fun e=>if e then ((qT (c.1,c.2) (d.1,d.2) (a.1,a.2.1,a.2.2) (Max.max c.1 (i64.wrap (a.2.2+1)))).bind fun b=>some ((b.1.1,b.1.2.1,b.1.2.2.1,b.1.2.2.2),(b.2.1.1,b.2.1.2.1,b.2.1.2.2),b.2.2)) else (some ((0,false,([] :List (Int×Int)),([] :List (Int×Int))),(a.1,a.2.1,a.2.2),false))
def k9 (a:(Int×Yq5)×Yq9×(List Yq8)×ByteArray) (f:Int):Option (aeD×(Int×Bool×KN)×Bool):=
 (oS ((a.1.1,a.1.2),(a.2.1.1,a.2.1.2),a.2.2.1,a.2.2.2)).bind fun b=>(sj ((a.1.1,a.1.2),(a.2.1.1,a.2.1.2),a.2.2.1,a.2.2.2) f).bind fun d=>if decide (d<0) then (some (((b.1.1,b.1.2),(b.2.1.1,b.2.1.2),b.2.2.1,b.2.2.2),(0,false,([],[])),false)) else ((kD ((a.1.1,a.1.2),(a.2.1.1,a.2.1.2),a.2.2.1,a.2.2.2)).bind fun g=>if g then ((aK a.2.2.1 d).bind fun e=>(j9 (a.1.1,a.1.2) (a.2.1.1,a.2.1.2) (e.1,e.2.1,e.2.2)).bind fun c=>(aK b.2.2.1 d).bind fun h=>some (((b.1.1,b.1.2),(b.2.1.1,b.2.1.2),b.2.2.1.set d.toNat (c.2.1.1,c.2.1.2.1,c.2.1.2.2),b.2.2.2),(c.1.1,c.1.2.1,(c.1.2.2.1,c.1.2.2.2)),c.2.2)) else (some (((b.1.1,b.1.2),(b.2.1.1,b.2.1.2),b.2.2.1,b.2.2.2),(0,false,([],[])),false)))
def w8 (a:Int×Int) (b:Int×Int):Option Bool:=
 if a.1 !=b.1 then (some false) else (if a.2 !=b.2 then (some false) else (some true))
def oT (b:List (Int×Int)) (e:List (Int×Int)) (a:Int):Option (Out Bool Int):=
 if decide (a<(b.length:Int)) then ((aK b a).bind fun c=>(aK e a).bind fun d=>(w8 (c.1,c.2) (d.1,d.2)).bind fun f=>if f then (some (.nxt (i64.wrap (a+1)))) else (some (.ret false))) else (some (.brk a))
def tR (a:List (Int×Int)) (b:List (Int×Int)):Option Bool:=
 if (a.length:Int) !=(b.length:Int) then (some false) else (aJ (aj (oT a b) aP 0) (fun r=>some r) (fun c=>some true))
def tS (a:Yq6×Yq6) (b:Yq6×Yq6):Option Bool:=
 (tR a.1 b.1).bind fun c=>if c then ((tR a.2 b.2).bind fun d=>if d then (some true) else (some false)) else (some false)
def kE (a:Int×Bool×KN) (b:Int×Bool×KN):Option Bool:=
 if a.1 !=b.1 then (some false) else (if a.2.1 !=b.2.1 then (some false) else ((tS (a.2.2.1,a.2.2.2) (b.2.2.1,b.2.2.2)).bind fun c=>if c then (some true) else (some false)))
def lM (a:Yq6×Int×Int):Option (Out (Int×Yq6) (Yq6×Int×Int)):=
 if decide (a.2.2<(a.1.length:Int)) then ((aK a.1 a.2.2).bind fun b=>(aK (a.1.set a.2.2.toNat (a.2.1,b.2)) a.2.2).bind fun c=>some (.nxt ((a.1.set a.2.2.toNat (a.2.1,b.2)).set a.2.2.toNat (c.1,i64.wrap (a.2.1+1)),i64.wrap ((i64.wrap (a.2.1+1))+1),i64.wrap (a.2.2+1)))) else (some (.brk (a.1,a.2.1,a.2.2)))
def ng (b:List (Int×Int)) (c:Int):Option (Int×Yq6):=
 aJ (aj (lM) aP (b,c,0)) (fun r=>some r) (fun a=>some (a.2.1,a.1))
def p7 (a:Yq6×Yq6) (d:Int):Option (Int×KN):=
 (ng a.1 d).bind fun b=>(ng a.2 b.1).bind fun c=>some (c.1,(b.2,c.2))
def nh (a:Int×Bool×KN) (c:Int):Option (Int×(Int×Bool×KN)):=
 (p7 (a.2.2.1,a.2.2.2) c).bind fun b=>some (b.1,(a.1,a.2.1,(b.2.1,b.2.2)))
def ni (b:List Int) (a:Int×Int):Option zF:=
 if decide (a.2<(b.length:Int)) then ((aK b a.2).bind fun c=>if c !=a.1 then (some (.ret (-1))) else (some (.nxt (i64.wrap (a.1+1),i64.wrap (a.2+1))))) else (some (.brk (a.1,a.2)))
def pd (a:List Int) (b:Int):Option Int:=
 aJ (aj (ni a) aP (b,0)) (fun r=>some r) (fun c=>some c.1)
def lN (b:List Yq4) (a:Int×Int):Option zF:=
 if decide (a.2<(b.length:Int)) then ((aK b a.2).bind fun c=>if c.1 !=a.1 then (some (.ret (-1))) else ((aK b a.2).bind fun d=>if d.2.1 !=(i64.wrap (a.1+1)) then (some (.ret (-1))) else ((aK b a.2).bind fun e=>if e.2.2.1 !=(i64.wrap ((i64.wrap (a.1+1))+1)) then (some (.ret (-1))) else ((aK b a.2).bind fun f=>if f.2.2.2 !=(i64.wrap ((i64.wrap ((i64.wrap (a.1+1))+1))+1)) then (some (.ret (-1))) else (some (.nxt (i64.wrap ((i64.wrap ((i64.wrap ((i64.wrap (a.1+1))+1))+1))+1),i64.wrap (a.2+1)))))))) else (some (.brk (a.1,a.2)))
def p8 (a:List Yq4) (b:Int):Option Int:=
 aJ (aj (lN a) aP (b,0)) (fun r=>some r) (fun c=>some c.1)
def kF (b:List HQ) (a:Int×Int):Option zF:=
 if decide (a.2<(b.length:Int)) then ((aK b a.2).bind fun e=>(pd e.1 a.1).bind fun c=>if decide (c<0) then (some (.ret (-1))) else ((aK b a.2).bind fun f=>(p8 f.2 c).bind fun d=>if decide (d<0) then (some (.ret (-1))) else (some (.nxt (d,i64.wrap (a.2+1)))))) else (some (.brk (a.1,a.2)))
def oU (a:List HQ) (b:Int):Option Int:=
 aJ (aj (kF a) aP (b,0)) (fun r=>some r) (fun c=>some c.1)
def nj (b:Int×Yq5) (c:Int):Option Int:=
 (oU b.2 c).bind fun a=>if decide (a<0) then (some (-1)) else (some a)
def lO (b:List Bool) (a:Int×Int):Option zF:=
 if decide (a.2<(b.length:Int)) then ((aK b a.2).bind fun c=>if c !=((Int.tmod a.1 3)==0) then (some (.ret (-1))) else (some (.nxt (i64.wrap (a.1+1),i64.wrap (a.2+1))))) else (some (.brk (a.1,a.2)))
def p9 (a:List Bool) (b:Int):Option Int:=
 aJ (aj (lO a) aP (b,0)) (fun r=>some r) (fun c=>some c.1)
def lP (b:List (List Int)) (a:Int×Int):Option zF:=
 if decide (a.2<(b.length:Int)) then ((aK b a.2).bind fun d=>(pd d a.1).bind fun c=>if decide (c<0) then (some (.ret (-1))) else (some (.nxt (c,i64.wrap (a.2+1))))) else (some (.brk (a.1,a.2)))
def qa (a:List (List Int)) (b:Int):Option Int:=
 aJ (aj (lP a) aP (b,0)) (fun r=>some r) (fun c=>some c.1)
def fT (b:List Yq2) (a:Int×Int):Option zF:=
 if decide (a.2<(b.length:Int)) then ((aK b a.2).bind fun e=>if e.1 !=a.1 then (some (.ret (-1))) else ((aK b a.2).bind fun f=>(p9 f.2.1 (i64.wrap (a.1+1))).bind fun c=>if decide (c<0) then (some (.ret (-1))) else ((aK b a.2).bind fun g=>(qa g.2.2 c).bind fun d=>if decide (d<0) then (some (.ret (-1))) else (some (.nxt (d,i64.wrap (a.2+1))))))) else (some (.brk (a.1,a.2)))
def jr (a:List Yq2) (b:Int):Option Int:=
 aJ (aj (fT a) aP (b,0)) (fun r=>some r) (fun c=>some c.1)
def kG (b:List Yq4) (a:Int×Int):Option zF:=
 if decide (a.2<(b.length:Int)) then ((aK b a.2).bind fun c=>if c.1 !=a.1 then (some (.ret (-1))) else ((aK b a.2).bind fun d=>if d.2.1 !=(i64.wrap (a.1+1)) then (some (.ret (-1))) else ((aK b a.2).bind fun e=>if e.2.2.1 !=(i64.wrap ((i64.wrap (a.1+1))+1)) then (some (.ret (-1))) else ((aK b a.2).bind fun f=>if f.2.2.2 !=(i64.wrap ((i64.wrap ((i64.wrap (a.1+1))+1))+1)) then (some (.ret (-1))) else (some (.nxt (i64.wrap ((i64.wrap ((i64.wrap ((i64.wrap (a.1+1))+1))+1))+1),i64.wrap (a.2+1)))))))) else (some (.brk (a.1,a.2)))
def oV (a:List Yq4) (b:Int):Option Int:=
 aJ (aj (kG a) aP (b,0)) (fun r=>some r) (fun c=>some c.1)
def fq (b:List xw) (a:Int×Int):Option zF:=
 if decide (a.2<(b.length:Int)) then ((aK b a.2).bind fun d=>if d.1 !=a.1 then (some (.ret (-1))) else ((aK b a.2).bind fun e=>(oV e.2.1 (i64.wrap (a.1+1))).bind fun c=>if decide (c<0) then (some (.ret (-1))) else ((aK b a.2).bind fun f=>if f.2.2 !=c then (some (.ret (-1))) else (some (.nxt (i64.wrap (c+1),i64.wrap (a.2+1))))))) else (some (.brk (a.1,a.2)))
def iO (a:List xw) (b:Int):Option Int:=
 aJ (aj (fq a) aP (b,0)) (fun r=>some r) (fun c=>some c.1)
def lQ (a:(List Yq2)×Yq3) (d:Int):Option Int:=
 (jr a.1 d).bind fun b=>if decide (b<0) then (some (-1)) else ((iO a.2 b).bind fun c=>if decide (c<0) then (some (-1)) else (some c))
def fu (b:List Yq8) (a:Int×Int):Option zF:=
 if decide (a.2<(b.length:Int)) then ((aK b a.2).bind fun c=>if c.1 !=a.1 then (some (.ret (-1))) else ((aK b a.2).bind fun d=>if d.2.1 !=(i64.wrap (a.1+1)) then (some (.ret (-1))) else ((aK b a.2).bind fun e=>if e.2.2 !=(i64.wrap ((i64.wrap (a.1+1))+1)) then (some (.ret (-1))) else (some (.nxt (i64.wrap ((i64.wrap ((i64.wrap (a.1+1))+1))+1),i64.wrap (a.2+1))))))) else (some (.brk (a.1,a.2)))
def iP (a:List Yq8) (b:Int):Option Int:=
 aJ (aj (fu a) aP (b,0)) (fun r=>some r) (fun c=>some c.1)
def jh (a:(Int×Yq5)×Yq9×(List Yq8)×ByteArray) (e:Int):Option Int:=
 (nj (a.1.1,a.1.2) e).bind fun b=>if decide (b<0) then (some (-1)) else ((lQ (a.2.1.1,a.2.1.2) b).bind fun c=>if decide (c<0) then (some (-1)) else ((iP a.2.2.1 c).bind fun d=>if decide (d<0) then (some (-1)) else (some d)))
def lR (b:List (Int×Int)) (a:Int×Int):Option zF:=
 if decide (a.2<(b.length:Int)) then ((aK b a.2).bind fun c=>if c.1 !=a.1 then (some (.ret (-1))) else ((aK b a.2).bind fun d=>if d.2 !=(i64.wrap (a.1+1)) then (some (.ret (-1))) else (some (.nxt (i64.wrap ((i64.wrap (a.1+1))+1),i64.wrap (a.2+1)))))) else (some (.brk (a.1,a.2)))
def nk (a:List (Int×Int)) (b:Int):Option Int:=
 aJ (aj (lR a) aP (b,0)) (fun r=>some r) (fun c=>some c.1)
def qb (a:Yq6×Yq6) (d:Int):Option Int:=
 (nk a.1 d).bind fun b=>if decide (b<0) then (some (-1)) else ((nk a.2 b).bind fun c=>if decide (c<0) then (some (-1)) else (some c))
def gX (a:Int×Bool×KN) (c:Int):Option Int:=
 (qb (a.2.2.1,a.2.2.2) c).bind fun b=>if decide (b<0) then (some (-1)) else (some b)
def fU (c:(Int×Yq5)×Yq9×(List Yq8)×ByteArray) (k:Int):Option Bool:=
 (rA ((c.1.1,c.1.2),(c.2.1.1,c.2.1.2),c.2.2.1,c.2.2.2) 1048576).bind fun p=>if decide (p<0) then (some true) else ((jG ((c.1.1,c.1.2),(c.2.1.1,c.2.1.2),c.2.2.1,c.2.2.2)).bind fun g=>(oP ((g.1.1,g.1.2),(g.2.1.1,g.2.1.2),g.2.2.1,g.2.2.2) k).bind fun b=>(jG ((c.1.1,c.1.2),(c.2.1.1,c.2.1.2),c.2.2.1,c.2.2.2)).bind fun d=>(k9 ((d.1.1,d.1.2),(d.2.1.1,d.2.1.2),d.2.2.1,d.2.2.2) k).bind fun a=>(jH ((a.1.1.1,a.1.1.2),(a.1.2.1.1,a.1.2.1.2),a.1.2.2.1,a.1.2.2.2) ((b.1.1.1,b.1.1.2),(b.1.2.1.1,b.1.2.1.2),b.1.2.2.1,b.1.2.2.2)).bind fun q=>if q then ((kE (a.2.1.1,a.2.1.2.1,(a.2.1.2.2.1,a.2.1.2.2.2)) (b.2.1.1,b.2.1.2.1,(b.2.1.2.2.1,b.2.1.2.2.2))).bind fun r=>if r then (if a.2.2 !=b.2.2 then (some false) else ((jG ((c.1.1,c.1.2),(c.2.1.1,c.2.1.2),c.2.2.1,c.2.2.2)).bind fun h=>(jH ((d.1.1,d.1.2),(d.2.1.1,d.2.1.2),d.2.2.1,d.2.2.2) ((h.1.1,h.1.2),(h.2.1.1,h.2.1.2),h.2.2.1,h.2.2.2)).bind fun s=>if s then ((gi ((d.1.1,d.1.2),(d.2.1.1,d.2.1.2),d.2.2.1,d.2.2.2) 1).bind fun t=>if decide (t.1<0) then (some false) else ((jH ((a.1.1.1,a.1.1.2),(a.1.2.1.1,a.1.2.1.2),a.1.2.2.1,a.1.2.2.2) ((b.1.1.1,b.1.1.2),(b.1.2.1.1,b.1.2.1.2),b.1.2.2.1,b.1.2.2.2)).bind fun u=>if u then ((kE (a.2.1.1,a.2.1.2.1,(a.2.1.2.2.1,a.2.1.2.2.2)) (b.2.1.1,b.2.1.2.1,(b.2.1.2.2.1,b.2.1.2.2.2))).bind fun v=>if v then (if a.2.2 !=b.2.2 then (some false) else ((gi ((a.1.1.1,a.1.1.2),(a.1.2.1.1,a.1.2.1.2),a.1.2.2.1,a.1.2.2.2) 1).bind fun f=>(nh (a.2.1.1,a.2.1.2.1,(a.2.1.2.2.1,a.2.1.2.2.2)) f.1).bind fun i=>(jh ((a.1.1.1,f.2.1.2),(f.2.2.1.1,f.2.2.1.2),f.2.2.2.1,a.1.2.2.2) 1).bind fun l=>if decide (l<0) then (some false) else ((gX (a.2.1.1,a.2.1.2.1,(i.2.2.2.1,i.2.2.2.2)) l).bind fun m=>if decide (m<0) then (some false) else (if m !=i.1 then (some false) else ((jG ((c.1.1,c.1.2),(c.2.1.1,c.2.1.2),c.2.2.1,c.2.2.2)).bind fun j=>(k9 ((j.1.1,j.1.2),(j.2.1.1,j.2.1.2),j.2.2.1,j.2.2.2) k).bind fun e=>(jH ((e.1.1.1,e.1.1.2),(e.1.2.1.1,e.1.2.1.2),e.1.2.2.1,e.1.2.2.2) ((b.1.1.1,b.1.1.2),(b.1.2.1.1,b.1.2.1.2),b.1.2.2.1,b.1.2.2.2)).bind fun w=>if w then ((kE (e.2.1.1,e.2.1.2.1,(e.2.1.2.2.1,e.2.1.2.2.2)) (b.2.1.1,b.2.1.2.1,(b.2.1.2.2.1,b.2.1.2.2.2))).bind fun x=>if x then (if e.2.2 !=b.2.2 then (some false) else ((jh ((a.1.1.1,f.2.1.2),(f.2.2.1.1,f.2.2.1.2),f.2.2.2.1,a.1.2.2.2) 1).bind fun n=>if decide (n<0) then (some false) else ((gX (a.2.1.1,a.2.1.2.1,(i.2.2.2.1,i.2.2.2.2)) n).bind fun o=>if decide (o<0) then (some false) else (if o !=i.1 then (some false) else (some true))))) else (some false)) else (some false)))))) else (some false)) else (some false))) else (some false))) else (some false)) else (some false))
end D
end Go.Proofs.YteapgmibbpckoaaGreatDoor
