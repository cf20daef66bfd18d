import Derived.Shelf.Strings.OnBuilder
import Derived.Shelf.Strings.SplitShaped
import Derived.Shelf.Strings.SlTrimAscii
import Derived.Shelf.Strconv.Atoi
import Derived.Shelf.LaysM
import Derived.Shelf.Strconv.Itoa3
import Derived.Test.YtjhoaknnmfifgaaGreatDoorProg
import Derived.Test.YtjhoaknnmfifgaaGreatDoorUnA
import Derived.Shelf.Strings.BuilderK
import Derived.Shelf.SlicesE.Clone
import Derived.RegionTactic
import Derived.Lib.ItoaNum
section
namespace Go.Proofs
open Go.Shelf
def Tryz.lays156_ren:Go.Shelf.Ren:=⟨fun|156=>206|165=>263|166=>141|169=>142|240=>213|241=>317|276=>267|277=>344|n=>n,fun|31=>22|9=>9|3=>3|4=>4|0=>0|20=>20|72=>243|76=>247|70=>241|37=>121|75=>246|127=>306|164=>367|5=>5|80=>114|n=>n,fun|n=>n⟩
theorem Tryz.lays156:Go.Proofs.Lays.n156 Tryz.prog Tryz.lays156_ren:={
 mixed:=by kernel_rfl
 f156:=Tryz.func206.trans (congrArg some (by kernel_rfl))
 f165:=Tryz.func263.trans (congrArg some (by kernel_rfl))
 f166:=Tryz.func141.trans (congrArg some (by kernel_rfl))
 f169:=Tryz.func142.trans (congrArg some (by kernel_rfl))
 f240:=Tryz.func213.trans (congrArg some (by kernel_rfl))
 f241:=Tryz.func317.trans (congrArg some (by kernel_rfl))
 f276:=Tryz.func267.trans (congrArg some (by kernel_rfl))
 f277:=Tryz.func344.trans (congrArg some (by kernel_rfl))
 t0:=Tryz.underlying0
 a0:=Tryz.isAgg0
 z0:=Tryz.sizeOf0
 v0:=Tryz.zeroValue0
 t3:=Tryz.underlying3
 a3:=Tryz.isAgg3
 z3:=Tryz.sizeOf3
 v3:=Tryz.zeroValue3
 t4:=Tryz.underlying4
 a4:=Tryz.isAgg4
 z4:=Tryz.sizeOf4
 v4:=Tryz.zeroValue4
 t9:=Tryz.underlying9
 a9:=Tryz.isAgg9
 z9:=Tryz.sizeOf9
 v9:=Tryz.zeroValue9
 t20:=Tryz.underlying20
 a20:=Tryz.isAgg20
 z20:=Tryz.sizeOf20
 v20:=Tryz.zeroValue20
 t31:=Tryz.underlying22
 a31:=Tryz.isAgg22
 z31:=Tryz.sizeOf22
 v31:=Tryz.zeroValue22
 t37:=Tryz.underlying121
 a37:=Tryz.isAgg121
 z37:=Tryz.sizeOf121
 v37:=Tryz.zeroValue121
 t70:=Tryz.underlying241
 a70:=Tryz.isAgg241
 z70:=Tryz.sizeOf241
 v70:=Tryz.zeroValue241
 t72:=Tryz.underlying243
 a72:=Tryz.isAgg243
 z72:=Tryz.sizeOf243
 v72:=Tryz.zeroValue243
 t75:=Tryz.underlying246
 a75:=Tryz.isAgg246
 z75:=Tryz.sizeOf246
 v75:=Tryz.zeroValue246
 t76:=Tryz.underlying247
 a76:=Tryz.isAgg247
 z76:=Tryz.sizeOf247
 v76:=Tryz.zeroValue247
 t127:=Tryz.underlying306
 a127:=Tryz.isAgg306
 z127:=Tryz.sizeOf306
 v127:=Tryz.zeroValue306
 t164:=Tryz.underlying367
 a164:=Tryz.isAgg367
 z164:=Tryz.sizeOf367
 v164:=Tryz.zeroValue367}
theorem Tryz.Builder_Extra_156:Builder.Extra Tryz.prog Tryz.lays156_ren:={
 sizeBuilder:=by kernel_rfl
 liesBuilder:=by kernel_rfl
 t5:=Tryz.underlying5
 a5:=Tryz.isAgg5
 z5:=Tryz.sizeOf5
 v5:=Tryz.zeroValue5
 infoByte:=by kernel_rfl
 cellsByte:=by kernel_rfl
 sizeByte:=by kernel_rfl
 neB5:=by decide}
def Tryz.lays160_ren:Go.Shelf.Ren:=⟨fun|160=>261|232=>310|231=>309|227=>245|234=>312|233=>311|236=>314|235=>313|228=>246|271=>338|151=>337|197=>304|120=>356|152=>243|260=>334|137=>295|119=>296|224=>297|225=>298|217=>306|266=>335|n=>n,fun|9=>9|4=>4|3=>3|5=>5|117=>349|116=>348|0=>0|124=>386|21=>21|105=>392|46=>276|119=>419|139=>422|138=>421|n=>n,fun|3=>2|4=>3|n=>n⟩
theorem Tryz.lays160:Go.Proofs.Lays.n160 Tryz.prog Tryz.lays160_ren:={
 mixed:=by kernel_rfl
 f119:=Tryz.func296.trans (congrArg some (by kernel_rfl))
 f120:=Tryz.func356.trans (congrArg some (by kernel_rfl))
 f137:=Tryz.func295.trans (congrArg some (by kernel_rfl))
 f151:=Tryz.func337.trans (congrArg some (by kernel_rfl))
 f152:=Tryz.func243.trans (congrArg some (by kernel_rfl))
 f160:=Tryz.func261.trans (congrArg some (by kernel_rfl))
 f197:=Tryz.func304.trans (congrArg some (by kernel_rfl))
 f217:=Tryz.func306.trans (congrArg some (by kernel_rfl))
 f224:=Tryz.func297.trans (congrArg some (by kernel_rfl))
 f225:=Tryz.func298.trans (congrArg some (by kernel_rfl))
 f227:=Tryz.func245.trans (congrArg some (by kernel_rfl))
 f228:=Tryz.func246.trans (congrArg some (by kernel_rfl))
 f231:=Tryz.func309.trans (congrArg some (by kernel_rfl))
 f232:=Tryz.func310.trans (congrArg some (by kernel_rfl))
 f233:=Tryz.func311.trans (congrArg some (by kernel_rfl))
 f234:=Tryz.func312.trans (congrArg some (by kernel_rfl))
 f235:=Tryz.func313.trans (congrArg some (by kernel_rfl))
 f236:=Tryz.func314.trans (congrArg some (by kernel_rfl))
 f260:=Tryz.func334.trans (congrArg some (by kernel_rfl))
 f266:=Tryz.func335.trans (congrArg some (by kernel_rfl))
 f271:=Tryz.func338.trans (congrArg some (by kernel_rfl))
 t0:=Tryz.underlying0
 a0:=Tryz.isAgg0
 z0:=Tryz.sizeOf0
 v0:=Tryz.zeroValue0
 t3:=Tryz.underlying3
 a3:=Tryz.isAgg3
 z3:=Tryz.sizeOf3
 v3:=Tryz.zeroValue3
 t4:=Tryz.underlying4
 a4:=Tryz.isAgg4
 z4:=Tryz.sizeOf4
 v4:=Tryz.zeroValue4
 t5:=Tryz.underlying5
 a5:=Tryz.isAgg5
 z5:=Tryz.sizeOf5
 v5:=Tryz.zeroValue5
 t9:=Tryz.underlying9
 a9:=Tryz.isAgg9
 z9:=Tryz.sizeOf9
 v9:=Tryz.zeroValue9
 t21:=Tryz.underlying21
 a21:=Tryz.isAgg21
 z21:=Tryz.sizeOf21
 v21:=Tryz.zeroValue21
 t46:=Tryz.underlying276
 a46:=Tryz.isAgg276
 z46:=Tryz.sizeOf276
 v46:=Tryz.zeroValue276
 t105:=Tryz.underlying392
 a105:=Tryz.isAgg392
 z105:=Tryz.sizeOf392
 v105:=Tryz.zeroValue392
 t116:=Tryz.underlying348
 a116:=Tryz.isAgg348
 z116:=Tryz.sizeOf348
 t117:=Tryz.underlying349
 a117:=Tryz.isAgg349
 z117:=Tryz.sizeOf349
 v117:=Tryz.zeroValue349
 t119:=Tryz.underlying419
 a119:=Tryz.isAgg419
 z119:=Tryz.sizeOf419
 t124:=Tryz.underlying386
 a124:=Tryz.isAgg386
 z124:=Tryz.sizeOf386
 v124:=Tryz.zeroValue386
 t138:=Tryz.underlying421
 a138:=Tryz.isAgg421
 z138:=Tryz.sizeOf421
 v138:=Tryz.zeroValue421
 t139:=Tryz.underlying422
 a139:=Tryz.isAgg422
 z139:=Tryz.sizeOf422
 v139:=Tryz.zeroValue422
 g3:=by kernel_rfl
 g4:=by kernel_rfl}
def Tryz.lays172_ren:Go.Shelf.Ren:=⟨fun|172=>262|244=>315|245=>316|247=>339|279=>340|280=>341|281=>342|282=>343|287=>357|316=>358|171=>138|205=>359|321=>365|322=>366|243=>207|246=>264|283=>318|284=>319|285=>320|286=>321|129=>346|317=>345|318=>347|319=>348|320=>349|337=>360|338=>361|n=>n,fun|9=>9|3=>3|75=>246|76=>247|4=>4|5=>5|167=>408|37=>121|0=>0|85=>409|2=>2|168=>411|53=>328|175=>423|46=>276|210=>427|127=>306|145=>434|143=>432|21=>21|171=>398|173=>401|212=>416|51=>325|20=>20|213=>417|232=>435|233=>436|80=>114|n=>n,fun|15=>4|16=>5|17=>1|18=>6|19=>7|n=>n⟩
theorem Tryz.lays172:Go.Proofs.Lays.n172 Tryz.prog Tryz.lays172_ren:={
 mixed:=by kernel_rfl
 f129:=Tryz.func346.trans (congrArg some (by kernel_rfl))
 f171:=Tryz.func138.trans (congrArg some (by kernel_rfl))
 f172:=Tryz.func262.trans (congrArg some (by kernel_rfl))
 f205:=Tryz.func359.trans (congrArg some (by kernel_rfl))
 f243:=Tryz.func207.trans (congrArg some (by kernel_rfl))
 f244:=Tryz.func315.trans (congrArg some (by kernel_rfl))
 f245:=Tryz.func316.trans (congrArg some (by kernel_rfl))
 f246:=Tryz.func264.trans (congrArg some (by kernel_rfl))
 f247:=Tryz.func339.trans (congrArg some (by kernel_rfl))
 f279:=Tryz.func340.trans (congrArg some (by kernel_rfl))
 f280:=Tryz.func341.trans (congrArg some (by kernel_rfl))
 f281:=Tryz.func342.trans (congrArg some (by kernel_rfl))
 f282:=Tryz.func343.trans (congrArg some (by kernel_rfl))
 f283:=Tryz.func318.trans (congrArg some (by kernel_rfl))
 f284:=Tryz.func319.trans (congrArg some (by kernel_rfl))
 f285:=Tryz.func320.trans (congrArg some (by kernel_rfl))
 f286:=Tryz.func321.trans (congrArg some (by kernel_rfl))
 f287:=Tryz.func357.trans (congrArg some (by kernel_rfl))
 f316:=Tryz.func358.trans (congrArg some (by kernel_rfl))
 f317:=Tryz.func345.trans (congrArg some (by kernel_rfl))
 f318:=Tryz.func347.trans (congrArg some (by kernel_rfl))
 f319:=Tryz.func348.trans (congrArg some (by kernel_rfl))
 f320:=Tryz.func349.trans (congrArg some (by kernel_rfl))
 f321:=Tryz.func365.trans (congrArg some (by kernel_rfl))
 f322:=Tryz.func366.trans (congrArg some (by kernel_rfl))
 f337:=Tryz.func360.trans (congrArg some (by kernel_rfl))
 f338:=Tryz.func361.trans (congrArg some (by kernel_rfl))
 t0:=Tryz.underlying0
 a0:=Tryz.isAgg0
 z0:=Tryz.sizeOf0
 v0:=Tryz.zeroValue0
 t2:=Tryz.underlying2
 a2:=Tryz.isAgg2
 z2:=Tryz.sizeOf2
 v2:=Tryz.zeroValue2
 t3:=Tryz.underlying3
 a3:=Tryz.isAgg3
 z3:=Tryz.sizeOf3
 v3:=Tryz.zeroValue3
 t4:=Tryz.underlying4
 a4:=Tryz.isAgg4
 z4:=Tryz.sizeOf4
 v4:=Tryz.zeroValue4
 t5:=Tryz.underlying5
 a5:=Tryz.isAgg5
 z5:=Tryz.sizeOf5
 v5:=Tryz.zeroValue5
 t9:=Tryz.underlying9
 a9:=Tryz.isAgg9
 z9:=Tryz.sizeOf9
 v9:=Tryz.zeroValue9
 t20:=Tryz.underlying20
 a20:=Tryz.isAgg20
 z20:=Tryz.sizeOf20
 v20:=Tryz.zeroValue20
 t21:=Tryz.underlying21
 a21:=Tryz.isAgg21
 z21:=Tryz.sizeOf21
 v21:=Tryz.zeroValue21
 t37:=Tryz.underlying121
 a37:=Tryz.isAgg121
 z37:=Tryz.sizeOf121
 v37:=Tryz.zeroValue121
 t46:=Tryz.underlying276
 a46:=Tryz.isAgg276
 z46:=Tryz.sizeOf276
 v46:=Tryz.zeroValue276
 t51:=Tryz.underlying325
 a51:=Tryz.isAgg325
 z51:=Tryz.sizeOf325
 v51:=Tryz.zeroValue325
 t53:=Tryz.underlying328
 a53:=Tryz.isAgg328
 z53:=Tryz.sizeOf328
 v53:=Tryz.zeroValue328
 t75:=Tryz.underlying246
 a75:=Tryz.isAgg246
 z75:=Tryz.sizeOf246
 v75:=Tryz.zeroValue246
 t76:=Tryz.underlying247
 a76:=Tryz.isAgg247
 z76:=Tryz.sizeOf247
 v76:=Tryz.zeroValue247
 t85:=Tryz.underlying409
 a85:=Tryz.isAgg409
 z85:=Tryz.sizeOf409
 v85:=Tryz.zeroValue409
 t127:=Tryz.underlying306
 a127:=Tryz.isAgg306
 z127:=Tryz.sizeOf306
 v127:=Tryz.zeroValue306
 t143:=Tryz.underlying432
 a143:=Tryz.isAgg432
 z143:=Tryz.sizeOf432
 v143:=Tryz.zeroValue432
 t145:=Tryz.underlying434
 a145:=Tryz.isAgg434
 z145:=Tryz.sizeOf434
 v145:=Tryz.zeroValue434
 t167:=Tryz.underlying408
 a167:=Tryz.isAgg408
 z167:=Tryz.sizeOf408
 v167:=Tryz.zeroValue408
 t168:=Tryz.underlying411
 a168:=Tryz.isAgg411
 z168:=Tryz.sizeOf411
 v168:=Tryz.zeroValue411
 t171:=Tryz.underlying398
 a171:=Tryz.isAgg398
 z171:=Tryz.sizeOf398
 v171:=Tryz.zeroValue398
 t173:=Tryz.underlying401
 a173:=Tryz.isAgg401
 z173:=Tryz.sizeOf401
 v173:=Tryz.zeroValue401
 t175:=Tryz.underlying423
 a175:=Tryz.isAgg423
 z175:=Tryz.sizeOf423
 v175:=Tryz.zeroValue423
 t210:=Tryz.underlying427
 a210:=Tryz.isAgg427
 z210:=Tryz.sizeOf427
 v210:=Tryz.zeroValue427
 t212:=Tryz.underlying416
 a212:=Tryz.isAgg416
 z212:=Tryz.sizeOf416
 v212:=Tryz.zeroValue416
 t213:=Tryz.underlying417
 a213:=Tryz.isAgg417
 z213:=Tryz.sizeOf417
 t232:=Tryz.underlying435
 a232:=Tryz.isAgg435
 z232:=Tryz.sizeOf435
 v232:=Tryz.zeroValue435
 t233:=Tryz.underlying436
 a233:=Tryz.isAgg436
 z233:=Tryz.sizeOf436
 v233:=Tryz.zeroValue436
 g15:=by kernel_rfl
 g16:=by kernel_rfl
 g17:=by kernel_rfl
 g18:=by kernel_rfl
 g19:=by kernel_rfl}
def Tryz.laysM171_ren:Go.Shelf.Ren:=⟨fun|171=>138|243=>207|246=>264|283=>318|284=>319|285=>320|286=>321|129=>346|317=>345|318=>347|319=>348|320=>349|337=>360|338=>361|n=>n,fun|3=>3|9=>9|2=>2|4=>4|171=>398|0=>0|53=>328|37=>121|5=>5|173=>401|212=>416|51=>325|20=>20|213=>417|46=>276|232=>435|233=>436|n=>n,fun|17=>1|18=>6|19=>7|n=>n⟩
theorem Tryz.laysM171:Go.Proofs.LaysM.n171 Tryz.prog Tryz.laysM171_ren:={
 mixed:=by kernel_rfl
 f129:=Tryz.func346.trans (congrArg some (by kernel_rfl))
 f171:=Tryz.func138.trans (congrArg some (by kernel_rfl))
 f243:=Tryz.func207.trans (congrArg some (by kernel_rfl))
 f246:=Tryz.func264.trans (congrArg some (by kernel_rfl))
 f283:=Tryz.func318.trans (congrArg some (by kernel_rfl))
 f284:=Tryz.func319.trans (congrArg some (by kernel_rfl))
 f285:=Tryz.func320.trans (congrArg some (by kernel_rfl))
 f286:=Tryz.func321.trans (congrArg some (by kernel_rfl))
 f317:=Tryz.func345.trans (congrArg some (by kernel_rfl))
 f318:=Tryz.func347.trans (congrArg some (by kernel_rfl))
 f319:=Tryz.func348.trans (congrArg some (by kernel_rfl))
 f320:=Tryz.func349.trans (congrArg some (by kernel_rfl))
 f337:=Tryz.func360.trans (congrArg some (by kernel_rfl))
 f338:=Tryz.func361.trans (congrArg some (by kernel_rfl))
 t0:=Tryz.underlying0
 a0:=Tryz.isAgg0
 z0:=Tryz.sizeOf0
 v0:=Tryz.zeroValue0
 t2:=Tryz.underlying2
 a2:=Tryz.isAgg2
 z2:=Tryz.sizeOf2
 v2:=Tryz.zeroValue2
 t3:=Tryz.underlying3
 a3:=Tryz.isAgg3
 z3:=Tryz.sizeOf3
 v3:=Tryz.zeroValue3
 t4:=Tryz.underlying4
 a4:=Tryz.isAgg4
 z4:=Tryz.sizeOf4
 v4:=Tryz.zeroValue4
 t5:=Tryz.underlying5
 a5:=Tryz.isAgg5
 z5:=Tryz.sizeOf5
 v5:=Tryz.zeroValue5
 t9:=Tryz.underlying9
 a9:=Tryz.isAgg9
 z9:=Tryz.sizeOf9
 v9:=Tryz.zeroValue9
 t20:=Tryz.underlying20
 a20:=Tryz.isAgg20
 z20:=Tryz.sizeOf20
 v20:=Tryz.zeroValue20
 t37:=Tryz.underlying121
 a37:=Tryz.isAgg121
 z37:=Tryz.sizeOf121
 v37:=Tryz.zeroValue121
 t46:=Tryz.underlying276
 a46:=Tryz.isAgg276
 z46:=Tryz.sizeOf276
 v46:=Tryz.zeroValue276
 t51:=Tryz.underlying325
 a51:=Tryz.isAgg325
 z51:=Tryz.sizeOf325
 v51:=Tryz.zeroValue325
 t53:=Tryz.underlying328
 a53:=Tryz.isAgg328
 z53:=Tryz.sizeOf328
 v53:=Tryz.zeroValue328
 t171:=Tryz.underlying398
 a171:=Tryz.isAgg398
 z171:=Tryz.sizeOf398
 v171:=Tryz.zeroValue398
 t173:=Tryz.underlying401
 a173:=Tryz.isAgg401
 z173:=Tryz.sizeOf401
 v173:=Tryz.zeroValue401
 t212:=Tryz.underlying416
 a212:=Tryz.isAgg416
 z212:=Tryz.sizeOf416
 v212:=Tryz.zeroValue416
 t213:=Tryz.underlying417
 a213:=Tryz.isAgg417
 z213:=Tryz.sizeOf417
 t232:=Tryz.underlying435
 a232:=Tryz.isAgg435
 z232:=Tryz.sizeOf435
 v232:=Tryz.zeroValue435
 t233:=Tryz.underlying436
 a233:=Tryz.isAgg436
 z233:=Tryz.sizeOf436
 v233:=Tryz.zeroValue436
 g17:=by kernel_rfl
 g18:=by kernel_rfl
 g19:=by kernel_rfl
 i0:=by kernel_rfl
 i2:=by kernel_rfl
 i3:=by kernel_rfl
 i4:=by kernel_rfl
 i5:=by kernel_rfl
 i9:=by kernel_rfl
 i20:=by kernel_rfl
 i37:=by kernel_rfl
 i46:=by kernel_rfl
 i51:=by kernel_rfl
 i53:=by kernel_rfl
 i171:=by kernel_rfl
 i173:=by kernel_rfl
 i212:=by kernel_rfl
 i232:=by kernel_rfl
 i233:=by kernel_rfl
 m17:=by kernel_rfl
 m18:=by kernel_rfl
 m19:=by kernel_rfl}
def Tryz.lays221_ren:Go.Shelf.Ren:=⟨fun|221=>190|268=>253|138=>254|143=>255|195=>303|197=>304|218=>305|219=>257|260=>334|217=>306|225=>298|224=>297|267=>307|266=>335|314=>336|n=>n,fun|9=>9|3=>3|31=>22|4=>4|0=>0|105=>392|21=>21|5=>5|46=>276|119=>419|139=>422|138=>421|146=>326|51=>325|n=>n,fun|1=>0|3=>2|4=>3|n=>n⟩
theorem Tryz.lays221:Go.Proofs.Lays.n221 Tryz.prog Tryz.lays221_ren:={
 mixed:=by kernel_rfl
 f138:=Tryz.func254.trans (congrArg some (by kernel_rfl))
 f143:=Tryz.func255.trans (congrArg some (by kernel_rfl))
 f195:=Tryz.func303.trans (congrArg some (by kernel_rfl))
 f197:=Tryz.func304.trans (congrArg some (by kernel_rfl))
 f217:=Tryz.func306.trans (congrArg some (by kernel_rfl))
 f218:=Tryz.func305.trans (congrArg some (by kernel_rfl))
 f219:=Tryz.func257.trans (congrArg some (by kernel_rfl))
 f221:=Tryz.func190.trans (congrArg some (by kernel_rfl))
 f224:=Tryz.func297.trans (congrArg some (by kernel_rfl))
 f225:=Tryz.func298.trans (congrArg some (by kernel_rfl))
 f260:=Tryz.func334.trans (congrArg some (by kernel_rfl))
 f266:=Tryz.func335.trans (congrArg some (by kernel_rfl))
 f267:=Tryz.func307.trans (congrArg some (by kernel_rfl))
 f268:=Tryz.func253.trans (congrArg some (by kernel_rfl))
 f314:=Tryz.func336.trans (congrArg some (by kernel_rfl))
 t0:=Tryz.underlying0
 a0:=Tryz.isAgg0
 z0:=Tryz.sizeOf0
 v0:=Tryz.zeroValue0
 t3:=Tryz.underlying3
 a3:=Tryz.isAgg3
 z3:=Tryz.sizeOf3
 v3:=Tryz.zeroValue3
 t4:=Tryz.underlying4
 a4:=Tryz.isAgg4
 z4:=Tryz.sizeOf4
 v4:=Tryz.zeroValue4
 t5:=Tryz.underlying5
 a5:=Tryz.isAgg5
 z5:=Tryz.sizeOf5
 v5:=Tryz.zeroValue5
 t9:=Tryz.underlying9
 a9:=Tryz.isAgg9
 z9:=Tryz.sizeOf9
 v9:=Tryz.zeroValue9
 t21:=Tryz.underlying21
 a21:=Tryz.isAgg21
 z21:=Tryz.sizeOf21
 v21:=Tryz.zeroValue21
 t31:=Tryz.underlying22
 a31:=Tryz.isAgg22
 z31:=Tryz.sizeOf22
 v31:=Tryz.zeroValue22
 t46:=Tryz.underlying276
 a46:=Tryz.isAgg276
 z46:=Tryz.sizeOf276
 v46:=Tryz.zeroValue276
 t51:=Tryz.underlying325
 a51:=Tryz.isAgg325
 z51:=Tryz.sizeOf325
 v51:=Tryz.zeroValue325
 t105:=Tryz.underlying392
 a105:=Tryz.isAgg392
 z105:=Tryz.sizeOf392
 v105:=Tryz.zeroValue392
 t119:=Tryz.underlying419
 a119:=Tryz.isAgg419
 z119:=Tryz.sizeOf419
 t138:=Tryz.underlying421
 a138:=Tryz.isAgg421
 z138:=Tryz.sizeOf421
 v138:=Tryz.zeroValue421
 t139:=Tryz.underlying422
 a139:=Tryz.isAgg422
 z139:=Tryz.sizeOf422
 v139:=Tryz.zeroValue422
 t146:=Tryz.underlying326
 a146:=Tryz.isAgg326
 z146:=Tryz.sizeOf326
 v146:=Tryz.zeroValue326
 g1:=by kernel_rfl
 g3:=by kernel_rfl
 g4:=by kernel_rfl}
end Go.Proofs
end
section
namespace Go.Pd
open Go Go.Proofs Go.RowKit Go.Shelf
set_option maxRecDepth 100000
def w8(l:List UInt8):List D:=l.map fun x=>D.int .u8 (x.toNat:Int)
structure BufAt(e:TypeId)(w:World)(g cap n:Nat)(xs:List Value)(cur:Array Value):Prop where
 at_:w.heap[g]?=some (.cells cur e (0,0))
 le:n≤cap
 cm:cap≤maxLen
 sz:cur.size=cap
 tk:cur.toList.take n=xs
 ln:xs.length=n
theorem BufAt.own{e:TypeId}{w:World}{g cap n:Nat}{xs:List Value}{cur:Array Value}(h:BufAt e w g cap n xs cur):w.ownsRow 0 e 1 (.slice (some ⟨g,0,none⟩) n cap) n xs:=
 ⟨by rw[Nat.mul_one];exact h.ln,.inr ⟨g,cap,cur,rfl,Nat.zero_le _,h.at_,h.le,h.cm,by rw[Nat.mul_one];exact h.sz,by rw[Nat.mul_one];exact h.tk⟩⟩
theorem Fc{P:Program}(w:World){t u e:TypeId}(ty:TypeId){i0:TypeInfo}(ht:P.underlying t=some (.slice e))(hu:P.underlying u=some .string)(hi:P.info? e=some i0)(hz0:i0.zero=some (.int .u8 0))(hz1:i0.size=1)(hz2:i0.bytes=1){v:Value}{n:Nat}{xs:List Value}(s:ByteArray)(hv:(v= .slice none 0 0∧n=0∧xs=[])∨∃g cap cur,v= .slice (some ⟨g,0,none⟩) n cap∧BufAt e w g cap n xs cur)(hb:n+s.size≤140737488355328)(h0:0<n+s.size):
  ∃g cap cur w',(Builtin.append_ #[t,u] ty #[v,.string s]).run P w= .ok (.slice (some ⟨g,0,none⟩) (n+s.size) cap) w'∧BufAt e w' g cap (n+s.size) (xs++Lib.strCells s) cur∧w.grownBy w' v.ownBlock∧(v.ownBlock=some g∨w.heap.size≤g):=by
 have h63:n+s.size≤maxLen:=by unfold maxLen;omega
 have form:∀(base:Nat) (v':Value) (w':World),w'.ownsRow base e 1 v' (n+s.size) (xs++Lib.strCells s)→∃g cap cur,v'= .slice (some ⟨g,0,none⟩) (n+s.size) cap∧BufAt e w' g cap (n+s.size) (xs++Lib.strCells s) cur∧base≤g:=fun base v' w' h=>by
  rcases h.2 with⟨_,hz⟩|⟨g,cap,cur,q1,q2,q3,q4,q5,q6,q7⟩
  ·omega
  ·exact⟨g,cap,cur,q1,⟨q3,q4,q5,by rw[Nat.mul_one] at q6;exact q6,by rw[Nat.mul_one] at q7;exact q7,by have:=h.1;rw[Nat.mul_one] at this;exact this⟩,q2⟩
 rcases hv with⟨rfl,rfl,rfl⟩|⟨g,cap,cur,rfl,hB⟩
 ·obtain⟨v',w',h1,h2,h3,_⟩:=Lib.run_append_own_string (P:=P) w w.heap.size t u ty e i0 ht hu hi hz0 hz1 hz2 _ 0 [] (World.ownsRow_nil _ _ _ _) s h63 hb (zb0 _);obtain⟨g,cap,cur,rfl,q1,q2⟩:=form _ _ _ h2;exact⟨g,cap,cur,w',h1,q1,h3,.inr q2⟩
 ·obtain⟨v',w',h1,h2,h3,_⟩:=Lib.run_append_own_string (P:=P) w 0 t u ty e i0 ht hu hi hz0 hz1 hz2 _ n xs hB.own s h63 hb (Nat.zero_le _);obtain⟨g',cap',cur',rfl,q1,q2⟩:=form _ _ _ h2;refine⟨g',cap',cur',w',h1,q1,h3,?_⟩;by_cases hr:n+s.size≤cap
  ·have:=Lib.run_append_room_string (P:=P) w t u ty e i0 ht hu hi hz1 g n cap cur hB.at_ s hr (by rw[hB.sz];exact hr);rw[this] at h1;simp only[Result.ok.injEq,Value.slice.injEq,za0,Addr.mk.injEq] at h1;left;show some g=some g';rw[h1.1.1.1]
  ·have:=Lib.run_append_grow_string (P:=P) w t u ty e i0 (.int .u8 0) ht hu hi hz0 ⟨g,0,none⟩ n cap xs (by rw[hz1,Nat.mul_one];exact hB.ln) (fun j u hu=>hB.own.cells (g:=g) rfl j u hu) s (by omega) (by omega) (by rw[hz2];exact growslice_fits (by have:=hB.le;omega) (by omega));rw[this] at h1;simp only[Result.ok.injEq,Value.slice.injEq,za0,Addr.mk.injEq] at h1;exact .inr (by rw[←h1.1.1.1];exact zb0 _)
structure Same2(v0:Value)(w0:World)(v:Value)(w:World):Prop where
 v:v=v0
 w:w=w0
theorem yk{P:Program}{ops:Array Oper}{rest:List Oper}{o:Oper}{a:Act}{w:World}{Q:Exit→Act→World→Prop}(hgd:o.guard=none)(sl x:Operand)(t u:TypeId)
  (ho:o.op= .call {callee:= .builtin .append,args:= #[sl,x],argTypes:= #[t,u]}) {v:Value} {s:ByteArray} (hs:a.eval sl=v) (hx:a.eval x= .string s) {v':Value} {w':World}
  (hr:(Builtin.append_ #[t,u] o.type #[v,.string s]).run P w= .ok v' w') (h:∀v2 w2,Same2 v' w' v2 w2→wpList P ops Q rest (a.put o.dst v2) w2):wpList P ops Q (o::rest) a w:=by
 refine wpList_plain hgd fun K hK=> ?_;unfold Oper.wp execOp;simp only[ho,resolve,invoke,builtin,Sem.run_bind,Sem.run_pure,Result.andThen_ok,List.map_toArray,List.map_cons,List.map_nil,hs,hx,hr];exact hK _ _ (h _ _ ⟨rfl,rfl⟩)
theorem wg{w:World}{b j:Nat}{c:Array Value}{e:TypeId}(v:Value)(h:w.heap[b]?=some (.cells c e (0,0))):(w.setCell ⟨b,j,none⟩ v).heap[b]?=some (.cells (c.setIfInBounds j v) e (0,0)):=by
 simp[World.setCell,Array.getElem?_modify,h]
theorem jX{w:World}{b j z:Nat}(v:Value)(h:z≠b):(w.setCell ⟨b,j,none⟩ v).heap[z]?=w.heap[z]?:=Below.heap_setCell _ _ _ _ h
theorem ym{P:Program}{ρ:Ren}(L:Lays.n240 P ρ)(X:Builder.X72 P ρ)(w:World)(b:Nat)(e:TypeId)(p0 v:Value)(hbk:w.heap[b]?=some (.cells #[p0,v] e (0,0)))(hp:p0= .pointer (some ⟨b,0,none⟩)∨(p0= .pointer none∧e=ρ.t 72)):
  Calls P (ρ.f 240) #[.pointer (some ⟨b,0,none⟩)] w fun en w1=>en= .returned (.tuple #[])∧w1.heap[b]?=some (.cells #[.pointer (some ⟨b,0,none⟩),v] e (0,0))∧(∀z,z≠b→w1.heap[z]?=w.heap[z]?)∧w1.heap.size=w.heap.size∧w1.os=w.os∧w1.tape=w.tape∧w1.output=w.output:=by
 rcases hp with rfl|⟨rfl,rfl⟩
 ·refine(Any.Builder_copyCheck_used L X b _ (by rw[Lib.cell_of_heap hbk];rfl)).mono ?_
  rintro en w' ⟨rfl,rfl⟩
  exact⟨rfl,hbk,fun _ _=>rfl,rfl,rfl,rfl,rfl⟩
 ·refine(Any.Builder_copyCheck_fresh L X b _ (by rw[Lib.cell_of_heap hbk];rfl) (by simp[World.shape?,hbk]) (Lib.frozen_of_heap hbk 0)).mono ?_
  rintro en w' ⟨rfl,rfl⟩
  exact⟨rfl,by rw[wg _ hbk];rfl,fun z hz=>jX _ hz,by simp[World.setCell],rfl,rfl,rfl⟩
set_option maxHeartbeats 2000000 in
theorem p7{P:Program}{ρ:Ren}(L:Lays.n166 P ρ)(X:Builder.Extra P ρ)(w:World)(b:Nat)(e:TypeId)(p0 v:Value)(n:Nat)(xs:List Value)(s:ByteArray)(hbk:w.heap[b]?=some (.cells #[p0,v] e (0,0)))(hp:p0= .pointer (some ⟨b,0,none⟩)∨(p0= .pointer none∧e=ρ.t 72))
  (hv:(v= .slice none 0 0∧n=0∧xs=[])∨∃g cap cur,v= .slice (some ⟨g,0,none⟩) n cap∧BufAt (ρ.t 5) w g cap n xs cur∧g≠b) (hlen:n+s.size≤140737488355328) (h0:0<n+s.size):
  Calls P (ρ.f 166) #[.pointer (some ⟨b,0,none⟩),.string s] w fun en w'=>en= .returned (.tuple #[.int .i64 s.size,.nilIface])∧∃g cap cur,w'.heap[b]?=some (.cells #[.pointer (some ⟨b,0,none⟩),.slice (some ⟨g,0,none⟩) (n+s.size) cap] e (0,0))∧BufAt (ρ.t 5) w' g cap (n+s.size) (xs++Lib.strCells s) cur∧g≠b∧(v.ownBlock=some g∨w.heap.size≤g)∧
   w.heap.size≤w'.heap.size∧(∀z,z<w.heap.size→z≠b→some z≠v.ownBlock→w'.heap[z]?=w.heap[z]?)∧w'.os=w.os∧w'.tape=w.tape∧w'.output=w.output:=by
 obtain⟨i0,hi,hz0,hz1,hz2⟩:=info_parts X.infoByte;have mixed:=L.mixed;have t72:=L.t72;have a72:=L.a72;have z72:=L.z72;have v72:=L.v72;have u72:=run_underlying L.t72;have t70:=L.t70;have a70:=L.a70;have z70:=L.z70;have v70:=L.v70;have u70:=run_underlying L.t70;have t37:=L.t37;have a37:=L.a37;have z37:=L.z37;have v37:=L.v37;have u37:=run_underlying L.t37;have t3:=L.t3;have a3:=L.a3;have z3:=L.z3;have v3:=L.v3;have u3:=run_underlying L.t3;have t9:=L.t9;have a9:=L.a9;have z9:=L.z9;have v9:=L.v9;have u9:=run_underlying L.t9;have t4:=L.t4;have a4:=L.a4;have z4:=L.z4;have v4:=L.v4;have u4:=run_underlying L.t4;have t164:=L.t164;have a164:=L.a164;have z164:=L.z164;have v164:=L.v164;have u164:=run_underlying L.t164;have e240:∀args w,(callFunc (ρ.f 240) args).run P w= .ok (.enter (ρ.f 240) args) w:=enters_of L.f240 (by kernel_rfl) rfl;have hbs:b<w.heap.size:=(zc0.1 hbk).1
 go_enter L.f166,Body.n166_ntmps ρ
 go_wp2_with (go_at_fn (ρ.f 240);refine(ym {L with} X.toX72 w b e p0 v hbk hp).mono ?_)
 rintro en w1 ⟨rfl,hb1,ho1,hs1,k1,k2,k3⟩
 have c0:w1.cell? ⟨b,0,none⟩=some (.pointer (some ⟨b,0,none⟩)):=by rw[Lib.cell_of_heap hb1];rfl
 have c1:w1.cell? ⟨b,1,none⟩=some v:=by rw[Lib.cell_of_heap hb1];rfl
 have hv1:(v= .slice none 0 0∧n=0∧xs=[])∨∃g cap cur,v= .slice (some ⟨g,0,none⟩) n cap∧BufAt (ρ.t 5) w1 g cap n xs cur:=hv.imp id fun⟨g,cap,cur,q1,q2,q3⟩=>⟨g,cap,cur,q1,by rw[ho1 g q3];exact q2.at_,q2.le,q2.cm,q2.sz,q2.tk,q2.ln⟩;have hvb:v.ownBlock≠some b:=by
  rcases hv with⟨rfl,_⟩|⟨g,cap,cur,rfl,_,q3⟩
  ·intro h;cases h
  ·intro h;exact q3 (Option.some.inj h)
 obtain⟨g,cap,cur,w2,hrun,hB2,hgr,hwhere⟩:=Fc w1 (ρ.t 37) L.t37 L.t9 hi hz0 hz1 hz2 s hv1 hlen h0
 go_wp2_with (at_builtin;refine yk rfl _ _ (ρ.t 37) (ρ.t 9) rfl rfl rfl hrun ?_)
 rintro v2 w3 ⟨rfl,rfl⟩
 have hgb:g≠b:=by
  rcases hwhere with h|h
  ·intro e1;subst e1;exact hvb h
  ·omega
 have hb2:w3.heap[b]?=some (.cells #[.pointer (some ⟨b,0,none⟩),v] e (0,0)):=by rw[hgr.block b (by omega) (fun h=>hvb h.symm)];exact hb1
 have d0:w3.cell? ⟨b,0,none⟩=some (.pointer (some ⟨b,0,none⟩)):=by rw[Lib.cell_of_heap hb2];rfl
 have d1:w3.cell? ⟨b,1,none⟩=some v:=by rw[Lib.cell_of_heap hb2];rfl
 have f1:w3.frozen? ⟨b,1,none⟩=false:=Lib.frozen_of_heap hb2 1
 go_wp2
 go_ret2
 refine⟨rfl,g,cap,cur,by rw[wg _ hb2];rfl,⟨by rw[jX _ hgb];exact hB2.at_,hB2.le,hB2.cm,hB2.sz,hB2.tk,hB2.ln⟩,hgb,hwhere.imp id fun h=>by omega,by simp[World.setCell];have:=hgr.size;omega,fun z z1 z2 z3=> ?_,hgr.os.trans k1,hgr.tape.trans k2,hgr.output.trans k3⟩;rw[jX _ z2,hgr.block z (by omega) z3,ho1 z z2]
theorem AS(w:World)(g n:Nat){o z:Nat}(h:z≠g):(w.freeze ⟨g,o,none⟩ n).heap[z]?=w.heap[z]?:=by
 unfold World.freeze;split
 ·rfl
 ·simp[Array.getElem?_modify,Ne.symm h]
theorem nN(w:World)(g n:Nat){o:Nat}:(w.freeze ⟨g,o,none⟩ n).heap.size=w.heap.size∧(w.freeze ⟨g,o,none⟩ n).os=w.os∧(w.freeze ⟨g,o,none⟩ n).tape=w.tape∧(w.freeze ⟨g,o,none⟩ n).output=w.output:=by
 unfold World.freeze;split
 ·exact⟨rfl,rfl,rfl,rfl⟩
 ·exact⟨by simp,rfl,rfl,rfl⟩
set_option maxHeartbeats 1000000 in
theorem wh{P:Program}{ρ:Ren}(L:Lays.n169 P ρ)(X:Builder.Extra P ρ)(w:World)(b:Nat)(e:TypeId)(p0:Value)(l:List UInt8)(h0:l≠[])(g cap:Nat)(cur:Array Value)(hbk:w.heap[b]?=some (.cells #[p0,.slice (some ⟨g,0,none⟩) l.length cap] e (0,0)))(hB:BufAt (ρ.t 5) w g cap l.length (Lib.byteCells l) cur):
  Calls P (ρ.f 169) #[.pointer (some ⟨b,0,none⟩)] w fun en w'=>en= .returned (.string ⟨l.toArray⟩)∧(∀z,z≠g→w'.heap[z]?=w.heap[z]?)∧w'.heap.size=w.heap.size∧w'.os=w.os∧w'.tape=w.tape∧w'.output=w.output:=by
 have hl0:l.length≠0:=by simpa using h0
 have c1:w.drew.cell? ⟨b,1,none⟩=some (.slice (some ⟨g,0,none⟩) l.length cap):=by
  have:w.drew.heap[b]?=some (.cells #[p0,.slice (some ⟨g,0,none⟩) l.length cap] e (0,0)):=hbk;rw[Lib.cell_of_heap this];rfl
 have hle:=hB.le;have hcm:=hB.cm;have hsz:=hB.sz;have hSD:(Builtin.unsafeSliceData_ #[(ρ.t 37)] (ρ.t 127) #[.slice (some ⟨g,0,none⟩) l.length cap]).run P w.drew= .ok (.pointer (some ⟨g,0,none⟩)) w.drew:=
  Lib.run_unsafeSliceData_row _ _ _ _ _ _ (by omega)
 have hUS:(Builtin.unsafeString_ #[(ρ.t 127),(ρ.t 3)] (ρ.t 9) #[.pointer (some ⟨g,0,none⟩),.int .i64 l.length]).run P w.drew= .ok (.string ⟨l.toArray⟩) (w.drew.freeze ⟨g,0,none⟩ l.length):=by
  refine Lib.run_unsafeString_row w.drew (ρ.t 127) (ρ.t 3) (ρ.t 9) (ρ.t 5) L.t127 X.cellsByte g cur.size (by have hg':w.drew.heap[g]?=some (.cells cur (ρ.t 5) (0,0)):=hB.at_;simp[World.shape?,hg']) l h0 (by omega) (by unfold maxLen at hcm;omega) ?_;intro j x hx;exact hB.own.cells (g:=g) rfl j (.int .u8 x.toNat) (by simp[Lib.byteCells,hx])
 have mixed:=L.mixed;have t72:=L.t72;have a72:=L.a72;have z72:=L.z72;have v72:=L.v72;have u72:=run_underlying L.t72;have t70:=L.t70;have a70:=L.a70;have z70:=L.z70;have v70:=L.v70;have u70:=run_underlying L.t70;have t37:=L.t37;have a37:=L.a37;have z37:=L.z37;have v37:=L.v37;have u37:=run_underlying L.t37;have t127:=L.t127;have a127:=L.a127;have z127:=L.z127;have v127:=L.v127;have u127:=run_underlying L.t127;have t3:=L.t3;have a3:=L.a3;have z3:=L.z3;have v3:=L.v3;have u3:=run_underlying L.t3;have t9:=L.t9;have a9:=L.a9;have z9:=L.z9;have v9:=L.v9;have u9:=run_underlying L.t9;have t5:=X.t5;have a5:=X.a5;have z5:=X.z5;have v5:=X.v5;have u5:=run_underlying X.t5;have fr:=nN w.drew g l.length (o:=0)
 go_enter L.f169,Body.n169_ntmps ρ
 go_wp2
 go_region_o
 all_goals (go_wp2;go_ret;exact⟨rfl,fun z hz=>(AS w.drew g l.length hz),fr⟩)
theorem Fd{cur:Array Value}{n:Nat}{l:List UInt8}{I:Nat→Prop}{w:World}(h:cur.toList.take n=l.map fun x=>Value.int .u8 x.toNat):∀(j:Nat) (d:D) (v:Value),(w8 l)[j]?=some d→cur[j]?=some v→RelC I w d v:=by
 intro j d v hd hv;unfold w8 at hd;rw[zc3] at hd;cases hx:l[j]? with
 |none=>rw[hx] at hd;cases hd
 |some x=>
  rw[hx] at hd;cases hd;have h1:(cur.toList.take n)[j]?=some (.int .u8 x.toNat):=by rw[h,zc3,hx];rfl
  rw[List.getElem?_take] at h1;split at h1
  ·rw[Array.getElem?_toList,hv] at h1;cases h1;exact .int _ _
  ·cases h1
theorem wk{n:Nat}{c:Array Value}{l:List UInt8}{I:Nat→Prop}{w:World}(hn:n=l.length)(hc:n≤c.size)(h:∀(j:Nat) (d:D) (v:Value),(w8 l)[j]?=some d→c[j]?=some v→RelC I w d v):c.toList.take n=l.map fun x=>Value.int .u8 x.toNat:=by
 subst hn;apply List.ext_getElem?;intro j;by_cases hj:j<l.length
 ·rw[List.getElem?_take_of_lt hj,zc3,zd2 hj];have hcj:j<c.size:=by omega
  have h1:=h j (.int .u8 l[j].toNat) c[j] (by unfold w8;rw[zc3,zd2 hj];rfl) (by simp[hcj]);rw[Array.getElem?_toList,Array.getElem?_eq_getElem hcj];have:=h1.toV (u:= .int .u8 l[j].toNat) rfl;rw[this];rfl
 ·rw[zd3 (by simp;omega),zd3 (by simp;omega)]
theorem fm{c:Array Value}(h:2=c.size):∃p v,c= #[p,v]:=⟨c[0],c[1],by apply Array.ext;exact h.symm;intro i h1 h2;match i,h2 with|0,_=>rfl|1,_=>rfl⟩
theorem CN{ow:List (Option Gh)}(h:ow.length=2):∃a b,ow=[a,b]:=by
 match ow,h with
 |[a,b],_=>exact⟨a,b,rfl⟩
theorem wl{vs:Array Value}{p:Value}{s:ByteArray}{I:Nat→Prop}{w:World}{x:D}(hl:2=vs.size)(hv:vs[0]?=some p)(hr:∀(j:Nat) (d:D) (v:Value),j≠0→[x,D.str s][j]?=some d→vs[j]?=some v→RelC I w d v):vs= #[p,.string s]:=by
 obtain⟨a,b,rfl⟩:=fm hl;obtain rfl:a=p:=Option.some.inj hv;have:=(hr 1 (.str s) b (by decide) rfl rfl).toV (u:= .string s) rfl;rw[this]
theorem zl{I:Nat→Prop}{w w':World}{b e g cap n k:Nat}{p0 v:Value}{cur:Array Value}{ow:List (Option Gh)}{l:List UInt8}(hI:∀x,I x→x<w.heap.size)(_:¬I b)(hn:n=l.length)(hv:∀q,v.ownBlock=some q→∃y,some y∈ow∧y.b=q)(how:∀x,some x∈ow→¬I x.b)
  (h1:w'.heap[b]?=some (.cells #[.pointer (some ⟨b,0,none⟩),.slice (some ⟨g,0,none⟩) n cap] e (0,0))) (h2:BufAt 5 w' g cap n (l.map fun x=>Value.int .u8 x.toNat) cur) (h3:g≠b) (h4:v.ownBlock=some g∨w.heap.size≤g) (h5:w.heap.size≤w'.heap.size)
  (h6:∀z,z<w.heap.size→z≠b→some z≠v.ownBlock→w'.heap[z]?=w.heap[z]?) (h7:w'.os=w.os∧w'.tape=w.tape∧w'.output=w.output):
  PbxE I w b #[p0,v] ow CM [.tup [],.slc false n (w8 l)] (.tup [.int .i64 (k:Int),.nilif]) w' (.tuple #[.int .i64 (k:Int),.nilIface]) #[.pointer (some ⟨b,0,none⟩),.slice (some ⟨g,0,none⟩) n cap] e I [none,some ⟨g,cap,n⟩] where
 grow:=fun _ h=>h
 lt:=fun x h=>zb2 (hI x h) h5
 new:=fun _ h=> .inl h
 res:=eu rfl
 blk:=h1
 siz:=rfl
 len:=rfl
 owl:=rfl
 cell:=fun j κ o d u q1 q2 q3 q4=>by
  match j,q1,q2,q3,q4 with
  |0,q1,q2,q3,q4=>cases q1;cases q2;cases q3;cases q4;exact⟨rfl,.inr ⟨rfl,rfl⟩⟩
  |1,q1,q2,q3,q4=>
   cases q1;cases q2;cases q3;cases q4;exact⟨w8 l,cur,rfl,rfl,h2.at_,by rw[Nat.mul_one];exact h2.sz,h2.cm,h2.le,by rw[Nat.mul_one];simp[w8,hn],Fd h2.tk⟩
  |j+2,q1,_,_,_=>cases q1
 own:=fun x hx=>by
  have hx:x=⟨g,cap,n⟩:=by simpa using hx
  subst hx;refine⟨fun hi=> ?_,h3,h4.symm.imp id fun h=>hv g h⟩;rcases h4 with h|h
  ·obtain⟨y,hy,e1⟩:=hv g h;exact how y hy (e1▸hi)
  ·have:=hI g hi;exact absurd h (Nat.not_le.2 this)
 inj:=fun i j x y hx hy _=>by
  have key:∀(i:Nat) (x:Gh),[none,some (⟨g,cap,n⟩:Gh)][i]?=some (some x)→i=1:=fun i x hx=>by
   match i,hx with
   |0,hx=>cases hx
   |1,_=>rfl
   |i+2,hx=>cases hx
  rw[key i x hx,key j y hy]
 size:=h5
 rest:=fun z z1 z2 z3=>h6 z z1 z2 fun e1=>by
  obtain⟨y,hy,e2⟩:=hv z e1.symm;exact z3 y hy e2
 os:=h7.1
 tape:=h7.2.1
 output:=h7.2.2
theorem tY(s:ByteArray):Lib.strCells s=s.data.toList.map fun x=>Value.int .u8 x.toNat:=rfl
theorem CO(s:ByteArray):s.size=s.data.toList.length:=by rw[Array.length_toList];rfl
theorem Ii(x:D)(s:ByteArray)(l:List UInt8)(hlen:l.length+s.size≤140737488355328)(h0:0<l.length+s.size):PbxC Tryz.prog je 141 0 CM CM [x,.str s] [.tup [],.slc false l.length (w8 l)] [.tup [],.slc false (l.length+s.size) (w8 (l++s.data.toList))] (.tup [.int .i64 (s.size:Int),.nilif]):=by
 intro I w b c e vs ow hI hgl hbI hb hcl hkl hol hcell how hinj hp hdl hvp hrel;obtain⟨p0,v,rfl⟩:=fm hcl;obtain⟨o0,o1,rfl⟩:=CN hol;obtain rfl:=wl hdl hvp hrel;obtain⟨rfl,hc0⟩:=hcell 0 .slf o0 (.tup []) p0 rfl rfl rfl rfl;obtain rfl:p0= .pointer (some ⟨b,0,none⟩):=by
  rcases hc0 with⟨h,_⟩|⟨_,h⟩
  ·cases h
  ·exact h
 have hc1:=hcell 1 (.own 5 1) o1 _ v rfl rfl rfl rfl;cases o1 with
 |none=>cases hc1.1
 |some y=>
  obtain⟨cs,cc,q1,rfl,q2,q3,q4,q5,q6,q7⟩:=hc1;simp only[D.slc.injEq,true_and] at q1;obtain⟨q8,rfl⟩:=q1;have hyb:=how y (by simp);rw[Nat.mul_one] at q3;have htk:=wk q8.symm (by rw[q3];exact q5) q7;refine(p7 (ρ:=Tryz.lays156_ren) {Tryz.lays156 with} Tryz.Builder_Extra_156 w b e _ (.slice (some ⟨y.b,0,none⟩) y.len y.cap) y.len (l.map fun x=>Value.int .u8 x.toNat) s hb (.inl rfl) (.inr ⟨y.b,y.cap,cc,rfl,⟨q2,q5,q4,q3,htk,by simp[q8]⟩,hyb.2.2⟩) (by omega) (by omega)).mono ?_
  rintro en w' ⟨rfl,g,cap,cur,k1,k2,k3,k4,k5,k6,k7⟩
  refine⟨_,_,e,I,_,rfl,zl (cur:=cur) (v:= .slice (some ⟨y.b,0,none⟩) y.len y.cap) hI hbI (by rw[za6,←CO]) (fun q hq=>⟨y,by simp,by simpa [Value.ownBlock] using hq⟩) (fun x hx=>(how x hx).2.1) (by rw[q8];exact k1) ?_ k3 k4 k5 k6 k7⟩;rw[q8,List.map_append,←tY];exact k2
theorem Ij(x:D)(s:ByteArray)(hlen:s.size≤140737488355328)(h0:0<s.size):K2 Tryz.prog je 141 0 243 CM [x,.str s] [.tup [],.slc false s.size (w8 s.data.toList)] (.tup [.int .i64 (s.size:Int),.nilif]):=by
 intro I w b vs hI hgl hbI hb hp hdl hvp hrel;obtain rfl:=wl hdl hvp hrel;refine(p7 (ρ:=Tryz.lays156_ren) {Tryz.lays156 with} Tryz.Builder_Extra_156 w b 243 _ (.slice none 0 0) 0 [] s hb (.inr ⟨rfl,rfl⟩) (.inl ⟨rfl,rfl,rfl⟩) (by omega) (by omega)).mono ?_
 rintro en w' ⟨rfl,g,cap,cur,k1,k2,k3,k4,k5,k6,k7⟩
 rw[Nat.zero_add] at k1 k2;exact⟨_,_,243,I,_,rfl,zl (v:= .slice none 0 0) hI hbI (CO s) (fun q hq=>by cases hq) (fun x hx=>by cases hx) k1 k2 k3 k4 k5 k6 k7⟩
theorem Ik(x:D)(l:List UInt8)(h0:l≠[]):PbxC Tryz.prog je 142 0 CM Oz [x] [.tup [],.slc false l.length (w8 l)] [.tup [],.junk] (.str ⟨l.toArray⟩):=by
 intro I w b c e vs ow hI hgl hbI hb hcl hkl hol hcell how hinj hp hdl hvp hrel;obtain⟨p0,v,rfl⟩:=fm hcl;obtain⟨o0,o1,rfl⟩:=CN hol;obtain rfl:vs= #[.pointer (some ⟨b,0,none⟩)]:=by
  have h1:vs.size=1:=hdl.symm;apply Array.ext
  ·rw[h1];rfl
  ·intro i q1 q2;have:i=0:=by simp at q2;omega
   subst this;rw[Array.getElem?_eq_getElem q1] at hvp;exact Option.some.inj hvp
 obtain⟨rfl,hc0⟩:=hcell 0 .slf o0 (.tup []) p0 rfl rfl rfl rfl;obtain rfl:p0= .pointer (some ⟨b,0,none⟩):=by
  rcases hc0 with⟨h,_⟩|⟨_,h⟩
  ·cases h
  ·exact h
 have hc1:=hcell 1 (.own 5 1) o1 _ v rfl rfl rfl rfl;cases o1 with
 |none=>cases hc1.1
 |some y=>
  obtain⟨cs,cc,q1,rfl,q2,q3,q4,q5,q6,q7⟩:=hc1;simp only[D.slc.injEq,true_and] at q1;obtain⟨q8,rfl⟩:=q1;have hyb:=how y (by simp);rw[Nat.mul_one] at q3;have htk:=wk rfl (by rw[q3,q8];exact q5) q7;refine(wh (ρ:=Tryz.lays156_ren) {Tryz.lays156 with} Tryz.Builder_Extra_156 w b e _ l h0 y.b y.cap cc (by rw[q8];exact hb) ⟨q2,by rw[q8];exact q5,q4,q3,htk,by simp[Lib.byteCells]⟩).mono ?_
  rintro en w' ⟨rfl,k1,k2,k3,k4,k5⟩
  refine⟨_,_,e,I,[none,none],rfl,{grow:=fun _ h=>h,lt:=fun x h=>by rw[k2];exact hI x h,new:=fun _ h=> .inl h,res:= .str _,blk:=by rw[k1 b (Ne.symm hyb.2.2)];exact hb,siz:=rfl,len:=rfl,owl:=rfl,cell:=fun j κ o d u z1 z2 z3 z4=> ?_,own:=fun x hx=>(by simp at hx),inj:=fun i j x y hx=> ?_,size:=by rw[k2];exact zb0 _,rest:=fun z z1 z2 z3=>k1 z (Ne.symm (z3 y (by simp))),os:=k3,tape:=k4,output:=k5}⟩
  ·match j,z1,z2,z3,z4 with
   |0,z1,z2,z3,z4=>cases z1;cases z2;cases z3;cases z4;exact⟨rfl,.inr ⟨rfl,rfl⟩⟩
   |1,z1,z2,z3,z4=>cases z1;cases z2;cases z3;cases z4;exact⟨rfl,.junk _⟩
   |j+2,z1,_,_,_=>cases z1
  ·match i,hx with
   |0,hx=>cases hx
   |1,hx=>cases hx
   |i+2,hx=>cases hx
end Go.Pd
end
section
namespace Go.Pd
open Go Go.Proofs Go.RowKit
set_option maxRecDepth 100000
theorem sC{w:World}{a:Addr}{v:Value}(h:w.cell? a=some v):a.spot=none:=by
 unfold World.cell? at h;split at h
 ·split at h
  ·cases h
  ·rename_i hs;cases e:a.spot with
   |none=>rfl
   |some x=>rw[e] at hs;exact absurd rfl hs
 ·cases h
theorem oF{vs:Array Value}(h:1=vs.size):∃v,vs= #[v]:=by
 refine⟨vs[0],?_⟩;apply Array.ext
 ·simp[←h]
 ·intro i hi _;have:i=0:=by omega
  subst this;rfl
theorem yn{w w':World}{e:TypeId}{size:Nat}{v':Value}{n:Nat}{news:List Value}{cs:List D}(hl:cs.length=n*size)(hd:∀(j:Nat) (d:D) (u:Value),cs[j]?=some d→news[j]?=some u→d.toV=some u)
  (h:w'.ownsRow w.heap.size e size v' n news) (hnil:v'≠ .slice none 0 0) (hbel:Blw (·<w.heap.size) w w'):
  Blw (·<w.heap.size) w w'∧∃(b cap:Nat) (c:Array Value),Ending.returned v'= .returned (.slice (some ⟨b,0,none⟩) n cap)∧w.heap.size≤b∧w'.heap[b]?=some (.cells c e (0,0))∧c.size=cap*size∧cap≤maxLen∧n≤cap∧cs.length=n*size∧
   ∀(j:Nat) (d:D) (v:Value),cs[j]?=some d→c[j]?=some v→d.toV=some v:=by
 obtain⟨_,⟨h1,_⟩|⟨g,cap,cur,rfl,h2,h3,h4,h5,h6,h7⟩⟩:=h
 ·exact absurd h1 hnil
 ·refine⟨hbel,g,cap,cur,rfl,h2,h3,h6,h5,h4,hl,fun j d v hj hv=>hd j d v hj ?_⟩;have hlt:j<n*size:=by rw[←hl];exact(zc1.1 hj).1
  rw[←h7,List.getElem?_take_of_lt hlt,Array.getElem?_toList];exact hv
section
variable {P:Program}
theorem wm{ops:Array Oper}{rest:List Oper}{o:Oper}{a:Act}{w:World}{Q:Exit→Act→World→Prop}(hgd:o.guard=none)(s x:Operand)(t:TypeId)(ho:o.op= .call {callee:= .builtin .append,args:= #[s,x],argTypes:= #[t,t]})
  (base:Nat) (e:TypeId) (i:TypeInfo) (z:Value) (size bytes:Nat) (ht:P.underlying t=some (.slice e)) (hi:P.info? e=some i) (hz:i.zero=some z) (hsize:i.size=size) (hby:i.bytes=bytes) (hzs:z.cells.size=size) (hsz:0<size)
  (v:Value) (n:Nat) (xs:List Value) (hs:a.eval s=v) (hown:w.ownsRow base e size v n xs) (ad:Addr) (m c:Nat) (news:List Value) (hx:a.eval x= .slice (some ad) m c) (hl:news.length=m*size) (hnews:∀j u,news[j]?=some u→w.cell? (ad.add j)=some u) (h1:∀u∈news,u.oneCell'=true)
  (h63:n+m≤maxLen) (hbytes:(n+m)*bytes≤140737488355328) (hbase:base≤w.heap.size)
  (h:∀v' w',w'.ownsRow base e size v' (n+m) (xs++news)→w.grownBy w' v.ownBlock→(v'= .slice none 0 0↔v= .slice none 0 0∧m=0)→wpList P ops Q rest (a.put o.dst v') w'):wpList P ops Q (o::rest) a w:=by
 refine wpList_plain hgd fun K hK=> ?_;obtain⟨v',w',hr,h2,h3,h4⟩:=run_append_own (P:=P) w base t o.type e i z size bytes ht hi hz hsize hby hzs hsz v n xs hown ad m c news hl hnews h1 h63 hbytes hbase;unfold Oper.wp execOp;simp only[ho,resolve,invoke,builtin,Sem.run_bind,Sem.run_pure,Result.andThen_ok,List.map_toArray,List.map_cons,List.map_nil,hs,hx,hr];exact hK _ _ (h v' w' h2 h3 h4)
end
set_option maxHeartbeats 2000000 in
theorem Fe{ρ:Go.Shelf.Ren}(L:Go.Proofs.SlLaysE0.n41 Tryz.prog ρ)(i0:TypeInfo)(z:Value)(size bytes:Nat)(hi:Tryz.prog.info? (ρ.t 23)=some i0)(hz0:i0.zero=some z)(hz1:i0.size=size)(hz2:i0.bytes=bytes)(hzs:z.cells.size=size)(hsz:0<size)(z23:∀w,(Go.sizeOf (ρ.t 23)).run Tryz.prog w= .ok size w)
  (b off n c:Nat) (news:List Value) (w:World) (hl:news.length=n*size) (hn:n≤maxLen) (hbig:n*bytes≤140737488355328) (hc:∀j u,news[j]?=some u→w.cell? ⟨b,off+j,none⟩=some u) (h1:∀u∈news,u.oneCell'=true):
  Calls Tryz.prog (ρ.f 41) #[.slice (some ⟨b,off,none⟩) n c] w fun e w'=>∃v',e= .returned v'∧w'.ownsRow w.heap.size (ρ.t 23) size v' n news∧v'≠ .slice none 0 0∧Blw (·<w.heap.size) w w':=by
 have mixed:=L.mixed;have t4:=L.t4;have a4:=L.a4;have z4:=L.z4;have v4:=L.v4;have t22:=L.t22;have a22:=L.a22;have z22:=L.z22;have v22:=L.v22;have q22:∀(w:World) (a:Option Addr) (n c n' c':Nat),(binOp .eql (ρ.t 22) (.slice a n c) (.slice none n' c')).run Tryz.prog w= .ok (.bool a.isNone) w:=fun w a n c n' c'=>Lib.run_eql_slice_nil w _ _ a n c n' c' L.t22;have u22:∀w,Sem.run Tryz.prog (underlying (ρ.t 22)) w= .ok (TypeDesc.slice (ρ.t 23)) w:=run_underlying t22;have A:Aside (∀j u,news[j]?=some u→w.cell? ⟨b,off+j,none⟩=some u):=hc;clear hc;obtain⟨_,_,FG⟩:=L.f41
 go_enter FG,Go.Proofs.SlBodyN.n41_ntmps ρ
 go_wp2_with (at_builtin;refine wm rfl _ _ (ρ.t 22) rfl w.heap.size (ρ.t 23) i0 z size bytes t22 hi hz0 hz1 hz2 hzs hsz _ _ _ rfl (World.ownsRow_made w #[] 0 (zb0 _) (Nat.zero_le _) (by simp)) ⟨b,off,none⟩ n c news rfl ?qc1 ?qc2 ?qc3 ?qc4 ?qc5 ?qc6 ?_)
 case qc1=>exact hl
 case qc2=>
  intro j u hj;rw[Addr.add_lit];exact Lib.cell?_alloc_some _ (A.out j u hj)
 case qc3=>exact h1
 case qc4=>rw[Nat.zero_add];exact hn
 case qc5=>rw[Nat.zero_add];exact hbig
 case qc6=>simp
 intro v' w1 hown hgrow hnil
 go_wp2
 go_ret
 refine⟨v',rfl,by simpa using hown,?_,?_⟩
 ·exact hnil
 ·exact Blw.of_below (((Below.refl _ w).alloc (zb0 _) _).grown hgrow (by simp) (by intro k hk;simp[Value.ownBlock] at hk;omega))
theorem sD{ρ:Go.Shelf.Ren}(L:Go.Proofs.SlLaysE0.n41 Tryz.prog ρ)(i0:TypeInfo)(z:Value)(size bytes:Nat)(hi:Tryz.prog.info? (ρ.t 23)=some i0)(hz0:i0.zero=some z)(hz1:i0.size=size)(hz2:i0.bytes=bytes)(hzs:z.cells.size=size)(hsz:0<size)(z23:∀w,(Go.sizeOf (ρ.t 23)).run Tryz.prog w= .ok size w)
  {f:Bool} {n:Nat} {cs:List D} (hn:0<n) (hm:n≤maxLen) (hl:cs.length=n*size) (hb:n*bytes≤140737488355328) (hp:cs.all D.plain=true) (h1:cs.all D.one=true):xu Tryz.prog je (ρ.f 41) (ρ.t 23) size [.slc f n cs] n cs:=by
 intro I w vs hI hgl hvs hrel;obtain⟨v,rfl⟩:=oF hvs;have hv:=hrel 0 _ v rfl rfl;rcases hv.slc_inv with⟨h0,_,_⟩|⟨ad,cap,us,rfl,q1,q2,q3,q4,q5⟩
 ·omega
 have hget:∀j (hj:j<cs.length),cs[j]?=some cs[j]:=fun j hj=>zd2 hj;have hpos:0<n*size:=Nat.mul_pos hn hsz;have had:ad.spot=none:=sC (w:=w) (q4 0 _ (hget 0 (by omega)));obtain⟨b,off,sp⟩:=ad;simp only at had;subst had;have hus:∀j u,((List.range cs.length).map us)[j]?=some u→∃d,cs[j]?=some d∧u=us j:=fun j u hj=>by
  have hlt:j<cs.length:=by have:=(zc1.1 hj).1;simpa using this
  simp[hlt] at hj;exact⟨_,hget j hlt,hj.symm⟩
 refine(Fe L i0 z size bytes hi hz0 hz1 hz2 hzs hsz z23 b off n cap ((List.range cs.length).map us) w (by simp[hl]) hm hb ?_ ?_).mono ?_
 ·intro j u hj;obtain⟨d,hd,rfl⟩:=hus j u hj;have:=q4 j d hd;unfold Addr.add at this;split at this
  ·rename_i h0;subst h0;exact this
  ·exact this
 ·intro u hu;obtain⟨j,hj,rfl⟩:=List.getElem_of_mem hu;obtain⟨d,hd,e⟩:=hus j _ (zd2 hj);rw[e];exact(q5 j d hd).one (zd7.1 h1 d (List.mem_of_getElem? hd))
 ·rintro e w' ⟨v',rfl,hrow,hnil,hbel⟩
  refine yn hl (fun j d u hd hu=> ?_) hrow hnil hbel;obtain⟨d',hd',rfl⟩:=hus j u hu;rw[hd] at hd';cases hd';obtain⟨u',hu'⟩:=Option.isSome_iff_exists.1 (zd7.1 hp d (List.mem_of_getElem? hd));rw[(q5 j d hd).toV hu'];exact hu'
theorem p8{k:FuncId}{e:TypeId}{m n:Nat}{ds cs:List D}(hen:∀vs w,(callFunc k vs).run Tryz.prog w= .ok (.enter k vs) w)(h:xu Tryz.prog je k e m ds n cs):bR k ds (.slc false n cs):=by
 refine⟨hen,fun I w vs hI hgl hl hr=>(h I w vs hI hgl hl hr).mono ?_⟩
 rintro en w' ⟨hbel,b,cap,c,rfl,hb,hc,hcs,hm,hle,hcl,hd⟩
 refine⟨_,rfl,?_,hbel⟩;have hbw:b<w'.heap.size:=(zc0.1 hc).1;have hlt:∀j,j<cs.length→j<c.size:=fun j hj=>by rw[hcs];have:=Nat.mul_le_mul_right m hle;omega
 refine .slc false n cs ⟨b,0,none⟩ cap (fun j=>c.getD j undef) (fun _=> .inr ⟨hb,hbw⟩) (fun hf=>by cases hf) hle (fun j d hj=> ?_) (fun j d hj=> ?_)
 ·have:=hlt j (zc1.1 hj).1;rw[cV hc];simp[this]
 ·have hj':=hlt j (zc1.1 hj).1;exact ew (hd j d _ hj (by simp[hj']))
theorem p9{k:FuncId}{e:TypeId}{f:Bool}(hen:∀vs w,(callFunc k vs).run Tryz.prog w= .ok (.enter k vs) w)(hnil:∀w,Calls Tryz.prog k #[.slice none 0 0] w fun en w'=>en= .returned (.slice none 0 0)∧w'=w)
  (h0:∀ad cap w,Calls Tryz.prog k #[.slice (some ad) 0 cap] w fun en w'=>en= .returned (.slice (some ⟨w.heap.size,0,none⟩) 0 0)∧w'=w.alloc (.cells #[] e)):bR k [.slc f 0 []] (.slc true 0 []):=by
 refine⟨hen,fun I w vs hI hgl hl hr=> ?_⟩;obtain⟨v,rfl⟩:=oF hl;have hv:=hr 0 _ v rfl rfl;rcases hv.slc_inv with⟨_,_,rfl⟩|⟨ad,cap,us,rfl,_⟩
 ·refine(hnil w).mono ?_
  rintro en w' ⟨rfl,rfl⟩
  exact⟨_,rfl,.slcn _,.refl _ _⟩
 ·refine(h0 ad cap w).mono ?_
  rintro en w' ⟨rfl,rfl⟩
  exact⟨_,rfl,.slc true 0 [] _ 0 (fun _=>undef) (fun h=>by simp at h) (fun _=>rfl) (zb0 _) (fun j d hj=>by simp at hj) (fun j d hj=>by simp at hj),Blw.of_below ((Below.refl _ _).alloc (zb0 _) _)⟩
def wn:Go.Shelf.Ren:=⟨fun|41=>208|n=>n,fun|22=>22|23=>9|4=>4|n=>n,fun|n=>n⟩
theorem zm:Go.Proofs.SlLaysE0.n41 Tryz.prog wn:={
 mixed:=by kernel_rfl
 f41:=⟨Tryz.f208.name,by decide,Tryz.func208.trans (congrArg some (by kernel_rfl))⟩
 t4:=Tryz.underlying4
 a4:=Tryz.isAgg4
 z4:=Tryz.sizeOf4
 v4:=Tryz.zeroValue4
 t22:=Tryz.underlying22
 a22:=Tryz.isAgg22
 z22:=Tryz.sizeOf22
 v22:=Tryz.zeroValue22}
noncomputable def Ma:TypeInfo:=(Tryz.prog.info? 9).get (by kernel_rfl)
theorem Ff(ad:Addr)(cap:Nat)(w:World):Calls Tryz.prog 208 #[.slice (some ad) 0 cap] w fun e w'=>e= .returned (.slice (some ⟨w.heap.size,0,none⟩) 0 0)∧w'=w.alloc (.cells #[] 9):=by
 have mixed:Tryz.prog.follows .mixedOrders=true:=by kernel_rfl
 have t22:=Tryz.underlying22;have q22:∀(w:World) (a:Option Addr) (n c n' c':Nat),(binOp .eql 22 (.slice a n c) (.slice none n' c')).run Tryz.prog w= .ok (.bool a.isNone) w:=fun w a n c n' c'=>Lib.run_eql_slice_nil w _ _ a n c n' c' t22
 go_enter Tryz.func208,Tryz.ntmps208
 go_wp2
 go_ret
 exact⟨rfl,rfl⟩
theorem yo{f:Bool}{n:Nat}{cs:List D}(hn:0<n)(hm:n≤maxLen)(hl:cs.length=n*1)(hb:n*16≤140737488355328)(hp:cs.all D.plain=true)(h1:cs.all D.one=true):xu Tryz.prog je 208 9 1 [.slc f n cs] n cs:=
 sD zm Ma (.string .empty) 1 16 (by kernel_rfl) (by kernel_rfl) (by kernel_rfl) (by kernel_rfl) rfl (by decide) Tryz.sizeOf9 hn hm hl hb hp h1
theorem G4:∀vs w,(callFunc 208 vs).run Tryz.prog w= .ok (.enter 208 vs) w:=enters_of Tryz.func208 (by kernel_rfl) rfl
def wo:Go.Shelf.Ren:=⟨fun|41=>209|n=>n,fun|22=>45|23=>3|4=>4|n=>n,fun|n=>n⟩
theorem zo:Go.Proofs.SlLaysE0.n41 Tryz.prog wo:={
 mixed:=by kernel_rfl
 f41:=⟨Tryz.f209.name,by decide,Tryz.func209.trans (congrArg some (by kernel_rfl))⟩
 t4:=Tryz.underlying4
 a4:=Tryz.isAgg4
 z4:=Tryz.sizeOf4
 v4:=Tryz.zeroValue4
 t22:=Tryz.underlying45
 a22:=Tryz.isAgg45
 z22:=Tryz.sizeOf45
 v22:=Tryz.zeroValue45}
noncomputable def Mb:TypeInfo:=(Tryz.prog.info? 3).get (by kernel_rfl)
theorem Fg(ad:Addr)(cap:Nat)(w:World):Calls Tryz.prog 209 #[.slice (some ad) 0 cap] w fun e w'=>e= .returned (.slice (some ⟨w.heap.size,0,none⟩) 0 0)∧w'=w.alloc (.cells #[] 3):=by
 have mixed:Tryz.prog.follows .mixedOrders=true:=by kernel_rfl
 have t22:=Tryz.underlying45;have q22:∀(w:World) (a:Option Addr) (n c n' c':Nat),(binOp .eql 45 (.slice a n c) (.slice none n' c')).run Tryz.prog w= .ok (.bool a.isNone) w:=fun w a n c n' c'=>Lib.run_eql_slice_nil w _ _ a n c n' c' t22
 go_enter Tryz.func209,Tryz.ntmps209
 go_wp2
 go_ret
 exact⟨rfl,rfl⟩
theorem yp{f:Bool}{n:Nat}{cs:List D}(hn:0<n)(hm:n≤maxLen)(hl:cs.length=n*1)(hb:n*8≤140737488355328)(hp:cs.all D.plain=true)(h1:cs.all D.one=true):xu Tryz.prog je 209 3 1 [.slc f n cs] n cs:=
 sD zo Mb (.int .i64 0) 1 8 (by kernel_rfl) (by kernel_rfl) (by kernel_rfl) (by kernel_rfl) rfl (by decide) Tryz.sizeOf3 hn hm hl hb hp h1
theorem G5:∀vs w,(callFunc 209 vs).run Tryz.prog w= .ok (.enter 209 vs) w:=enters_of Tryz.func209 (by kernel_rfl) rfl
def Oh(n:Nat)(cs:List D):D:=match n with
 |0=> .slc true 0 []
 |m+1=> .slc false (m+1) cs
theorem Mc{f:Bool}{n:Nat}{cs:List D}(hm:n≤1000000)(hl:cs.length=n*1)(hp:cs.all D.plain=true)(h1:cs.all D.one=true):bR 208 [.slc f n cs] (Oh n cs):=by
 cases n with
 |zero=>
  have:cs=[]:=List.eq_nil_of_length_eq_zero (by omega);subst this;exact p9 G4 (AnyE.slices_Clone_nil zm 0 0) Ff
 |succ n=>exact p8 G4 (yo (by omega) (by unfold maxLen;omega) hl (by omega) hp h1)
theorem Md{f:Bool}{n:Nat}{cs:List D}(hm:n≤1000000)(hl:cs.length=n*1)(hp:cs.all D.plain=true)(h1:cs.all D.one=true):bR 209 [.slc f n cs] (Oh n cs):=by
 cases n with
 |zero=>
  have:cs=[]:=List.eq_nil_of_length_eq_zero (by omega);subst this;exact p9 G5 (AnyE.slices_Clone_nil zo 0 0) Fg
 |succ n=>exact p8 G5 (yp (by omega) (by unfold maxLen;omega) hl (by omega) hp h1)
end Go.Pd
end
section
namespace Go.Pd
open Go Go.Proofs Go.RowKit Go.Shelf Go.Sort
set_option maxRecDepth 100000
theorem mo{vs:Array Value}{a b:List UInt8}{I:Nat→Prop}{w:World}(hl:2=vs.size)(hr:∀(j:Nat) (d:D) (v:Value),[SB a,SB b][j]?=some d→vs[j]?=some v→RelC I w d v):vs= #[.string (bs a),.string (bs b)]:=by
 obtain⟨x,y,rfl⟩:=fm hl;have h1:=(hr 0 (SB a) x rfl rfl).toV (u:= .string (bs a)) rfl;have h2:=(hr 1 (SB b) y rfl rfl).toV (u:= .string (bs b)) rfl;rw[h1,h2]
theorem Fh:Tryz.prog.globalNamed "internal/strconv.uint64pow10"=some 1:=by kernel_rfl
theorem zp:powL=Lib.pow10Tab.map fun z=>D.int .u64 z:=by simp[powL,Lib.pow10Tab]
theorem RelC.snap_cell{I:Nat→Prop}{w:World}{ds:List D}{g:Nat}(h:RelC I w (.snap ds 0) (.pointer (some ⟨g,0,none⟩))){j:Nat}{d:D}(hd:ds[j]?=some d):∃u,w.cell? ⟨g,j,none⟩=some u∧RelC I w d u:=by
 generalize hv:Value.pointer (some ⟨g,0,none⟩)=v at h;generalize ho:D.snap ds 0=x at h;cases h with
 |snap cs off a us hI hc hr=>
  cases ho;simp only[Value.pointer.injEq,za0] at hv;have ha:a.add 0=a:=by unfold Addr.add;simp
  rw[ha] at hv;subst hv;have:=hc j d hd;rw[show(⟨g,0,none⟩:Addr).add j=⟨g,j,none⟩ by simp[Addr.add];intro h;exact h.symm] at this;exact⟨_,this,hr j d hd⟩
 |_=>cases ho
theorem AT{I:Nat→Prop}{w:World}(h:Gl je I w):Lib.TabIs Tryz.prog w "internal/strconv.uint64pow10" .u64 Lib.pow10Tab:=by
 obtain⟨h1,h2⟩:=h 1 (.snap powL 0) rfl;obtain⟨_,c,e,t,hb,hs⟩:=h2 powL rfl;unfold Lib.TabIs World.var?;rw[Fh];simp only[Option.bind_some,hb]
 congr 1
 have hl:powL.length=Lib.pow10Tab.length:=by rw[zp,zc2]
 apply Array.ext_getElem?;intro j;by_cases hj:j<Lib.pow10Tab.length
 ·have hd:powL[j]?=some (D.int .u64 Lib.pow10Tab[j]):=by
   rw[zp,zc3,zd2 hj];rfl
  obtain⟨u,hu,hr⟩:=h1.snap_cell hd;have hc0:=cV hb 0 j;rw[show((⟨1,0,none⟩:Addr).add j)=⟨1,j,none⟩ by simp[Addr.add];exact fun h=>h.symm,Nat.zero_add] at hc0;rw[hc0] at hu;rw[hu,List.getElem?_toArray,zc3,zd2 hj];have:=hr.toV (u:= .int .u64 Lib.pow10Tab[j]) rfl;rw[this];rfl
 ·rw[zd0 (by omega),List.getElem?_toArray,zd3 (by simp;omega)]
theorem CP{w:World}(k:Nat)(os:Array Obj):Blw (·<w.heap.size) w (grow (w.drewN k) os):=
 ⟨rfl,rfl,rfl,by simp[grow,World.drewN],fun j hj=>heap_grow_old (w.drewN k) os hj⟩
theorem CQ(n:Int)(h: -9223372036854775808≤n∧n<9223372036854775808):bR 138 [.int .i64 n] (SB (Lib.itoa n)):=by
 refine⟨enters_of Tryz.func138 (by kernel_rfl) rfl,fun I w vs hI hgl hl hr=> ?_⟩;obtain⟨v,rfl⟩:=oF hl;have hv:=(hr 0 _ v rfl rfl).toV (u:= .int .i64 n) rfl;subst hv;refine(Any.strconv_Itoa Tryz.laysM171 n h.1 (by omega) w (AT hgl)).mono ?_
 rintro e w' ⟨rfl,k,os,rfl⟩
 exact⟨_,rfl,.str _,CP k os⟩
theorem G6(l:List UInt8)(c:UInt8):bR 306 [SB l,.int .u8 (c.toNat:Int)] (.int .i64 (Lib.indexByte l c)):=by
 refine⟨enters_of Tryz.func306 (by kernel_rfl) rfl,fun I w vs hI hgl hl hr=> ?_⟩;obtain⟨v0,v1,rfl⟩:=fm hl;have h0:=(hr 0 _ v0 rfl rfl).toV (u:= .string (bs l)) rfl;have h1:=(hr 1 _ v1 rfl rfl).toV (u:= .int .u8 (c.toNat:Int)) rfl;subst h0 h1;refine(Any.stringslite_IndexByte (ρ:=Tryz.lays221_ren) {Tryz.lays221 with} (bs l) (c.toNat:Int) w).mono ?_
 rintro e w' ⟨rfl,rfl⟩
 refine⟨_,rfl,?_,.refl _ _⟩;rw[cH,za3,show c.toNat.toUInt8=c from by simp];exact .int _ _
theorem Me(l:List UInt8)(c:UInt8):bR 254 [SB l,SB [c]] (.int .i64 (Lib.countByte l c)):=by
 refine⟨enters_of Tryz.func254 (by kernel_rfl) rfl,fun I w vs hI hgl hl hr=> ?_⟩;obtain rfl:=mo hl hr;refine(Any.strings_Count_one (ρ:=Tryz.lays221_ren) {Tryz.lays221 with} (bs l) c w).mono ?_
 rintro e w' ⟨rfl,rfl⟩
 exact⟨_,rfl,by rw[cH];exact .int _ _,.refl _ _⟩
theorem Il(w:World)(e:TypeId)(s:ByteArray):Blw (·<w.heap.size) w (Lib.bytesWorld w e s):=by
 have h:=nN (w.drew.alloc (.cells (Lib.bytesCells w e s) e)) w.heap.size 1 (o:=(Lib.bytesCells w e s).size);refine⟨h.2.1,h.2.2.1,h.2.2.2,?_,fun k hk=>Lib.bytesWorld_at_old w e s k hk⟩;rw[Lib.bytesWorld_size];exact Nat.le_succ _
theorem G7(l:List UInt8)(n:Int)(hl:l.length≤18)(h:Lib.atoi l=some n):bR 262 [SB l] (.tup [.int .i64 n,.nilif]):=by
 refine⟨enters_of Tryz.func262 (by kernel_rfl) rfl,fun I w vs hI hgl hvl hr=> ?_⟩;obtain⟨v,rfl⟩:=oF hvl;have hv:=(hr 0 (SB l) v rfl rfl).toV (u:= .string (bs l)) rfl;subst hv;refine(Any.strconv_Atoi Tryz.lays172 (bs l) n (by rw[bm];exact hl) (by rw[cH];exact h) w).mono ?_
 rintro e w' ⟨rfl,t,rfl⟩
 exact⟨_,rfl,eu rfl,Il w _ t⟩
def dgsB:List UInt8:=[48,49,50,51,52,53,54,55,56,57]
theorem CR(l c:List UInt8)(hl:l.length≤1000000)(hc:c.length≤1000)(ha:c.all (fun b=>decide (b.toNat<128))=true):bR 261 [SB l,SB c] (SB (Lib.trimS l c)):=by
 refine⟨enters_of Tryz.func261 (by kernel_rfl) rfl,fun I w vs hI hgl hvl hr=> ?_⟩;obtain rfl:=mo hvl hr;have hsz:=bm l;have hcz:=bm c;refine(Any.strings_Trim_laid Tryz.lays160 (by kernel_rfl) (bs l) (bs c) w (by omega) (by omega) (by rw[cH];exact ascii_of_all ha)).mono ?_
 rintro e w' ⟨rfl,hb⟩
 exact⟨_,rfl,by rw[cH,cH];exact .str _,Blw.of_below hb⟩
theorem G8{f:Bool}(ws:List (List UInt8))(sp:List UInt8)(hl:ws.length≤1000000)(hj:(Lib.join ws sp).length≤140737488355328):bR 206 [.slc f ws.length (ws.map SB),SB sp] (SB (Lib.join ws sp)):=by
 refine⟨enters_of Tryz.func206 (by kernel_rfl) rfl,fun I w vs hI hgl hvl hr=> ?_⟩;obtain⟨v0,v1,rfl⟩:=fm hvl;have h1:=(hr 1 (SB sp) v1 rfl rfl).toV (u:= .string (bs sp)) rfl;subst h1;have h0:=hr 0 _ v0 rfl rfl;have hm:(ws.map bs).map (·.data.toList)=ws:=by
  rw[List.map_map]
  conv=>rhs;rw[←List.map_id ws]
  exact List.map_congr_left fun x _=>cH x
 have hnil:∀(a:Option Addr) (c:Nat),ws=[]→Calls Tryz.prog 206 #[.slice a 0 c,.string (bs sp)] w fun en w'=>∃v,en= .returned v∧RelC (fun b=>I b∨(w.heap.size≤b∧b<w'.heap.size)) w' (SB (Lib.join ws sp)) v∧Blw (·<w.heap.size) w w':=fun a c e=>by
  subst e;refine(Any.strings_Join_none (ρ:=Tryz.lays156_ren) {Tryz.lays156 with} Tryz.Builder_Extra_156 a c (bs sp) w).mono ?_
  rintro en w' ⟨rfl,rfl⟩
  exact⟨_,rfl,.str _,.refl _ _⟩
 generalize hd:D.slc f ws.length (ws.map SB)=d at h0;cases h0 with
 |slcn=>
  simp only[D.slc.injEq] at hd;exact hnil none 0 (List.length_eq_zero_iff.1 hd.2.1)
 |slc full len cs a cap us hIb hf hle hc hrr=>
  simp only[D.slc.injEq] at hd;obtain⟨rfl,rfl,rfl⟩:=hd;by_cases hws:ws=[]
  ·rw[show ws.length=0 by rw[hws];rfl];exact hnil (some a) cap hws
  ·obtain⟨x,r,hws⟩:∃x r,ws=x::r:=List.exists_cons_of_ne_nil hws;have hcell:∀(j:Nat) (y:List UInt8),ws[j]?=some y→w.cell? (a.add j)=some (.string (bs y)):=fun j y hj=>by
    have hd:(ws.map SB)[j]?=some (SB y):=by rw[zc3,hj];rfl
    rw[hc j _ hd];have:=(hrr j _ hd).toV (u:= .string (bs y)) rfl;rw[this]
   have h00:=hcell 0 x (by rw[hws];rfl);rw[Addr.add_zero'] at h00;have hsp:=sC h00;obtain⟨bk,o,sp⟩:=a;obtain rfl:sp=none:=hsp;have hbk:bk<w.heap.size:=hI bk (hIb (by rw[hws];simp));have hJ:=Any.strings_Join (ρ:=Tryz.lays156_ren) {Tryz.lays156 with} Tryz.Builder_Extra_156 bk o cap (ws.map bs) (bs sp) w (fun j y hj=>by
    rw[zc3] at hj;cases hx:ws[j]? with
    |none=>rw[hx] at hj;cases hj
    |some z=>
     rw[hx] at hj;cases hj;have:=hcell j z hx
     rwa [dB] at this) hbk (by rw[zc2];omega) (by rw[zc2];exact hle) (by rw[hm,cH];exact hj)
   rw[hm,cH,zc2] at hJ;refine hJ.mono ?_
   rintro en w' ⟨rfl,hb⟩
   exact⟨_,rfl,.str _,Blw.of_below hb⟩
 |_=>cases hd
end Go.Pd
end
