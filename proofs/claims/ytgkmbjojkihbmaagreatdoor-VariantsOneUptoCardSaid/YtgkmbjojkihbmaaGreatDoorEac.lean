/-
  DERIVED: THE SHELF's CONTRACTS AT THIS DUMP, IN PLAIN WORDS ..
  The library's contracts, as the shelf gives them, as ..
  The IR of functions of the program, printed by our own tool
  Contracts: numbers, of the program.
  Contracts: numbers, of the reference.
  Contracts: conditions of the program.
  Contracts: rules of the program.
  Contracts: conditions and rules of the reference.
  Contracts: keys, names of the reference.
  Contracts: the fields of parts.
  Contracts: the names of a message, in the reference.
  Contracts: Escape of the reference.
  Contracts: formed, of the reference.
  Contracts: the text of a message, of the reference.
  A builder of the library at this program: the check of ..
  Contracts: Valid, of the reference.
  Maps that are sets of strings, and calls over a store with ..
  Contracts: the checker of the program.
  Contracts: the checker of the program: parts.
  Contracts: the length of a message's text, of the program.
  Contracts: the length of a message's text, of the program: ..
  Contracts: Valid, of the program.
  Selectors as plain Lean data: what collects them.
  Stores of which a part is a list
  Contracts: the selectors' find, of both sides.
  Selectors whose keys are owned: the names in the store, and ..
  Contracts: what collects the selectors, in the program.
-/
import Derived.Shelf.Small.Wraps
import Derived.Shelf.Strconv.Itoa3
import Derived.Shelf.Strconv.Atoi
import Derived.Shelf.Strings.Search2
import Derived.Shelf.Strings.SlTrimAscii
import Derived.Test.YtgkmbjojkihbmaaGreatDoorEab
import Derived.Deep.Draws
import Derived.Lib.AtoiErrMem
import Derived.Shelf.Strings.Builder1
import Derived.BigCall
set_option linter.all false
set_option linter.defProp false
set_option linter.unusedSimpArgs false
set_option linter.unusedVariables false
open Nat (reduceEqDiff)
namespace Go.Proofs
open Go.Shelf
def Tryz.lays103_ren:Go.Shelf.Ren:=⟨fun|103=>73|210=>117|206=>115|n=>n,fun|9=>9|4=>4|24=>146|3=>3|n=>n,fun|n=>n⟩
theorem Tryz.lays103:Go.Proofs.Lays.n103 Tryz.prog Tryz.lays103_ren:={
 mixed:=by kernel_rfl
 f103:=Tryz.func73.trans (congrArg some (by kernel_rfl))
 f206:=Tryz.func115.trans (congrArg some (by kernel_rfl))
 f210:=Tryz.func117.trans (congrArg some (by kernel_rfl))
 t3:=Tryz.underlying3
 a3:=Tryz.isAgg3
 z3:=Tryz.sizeOf3
 v3:=Tryz.zeroValue3
 t4:=Tryz.underlying4
 a4:=Tryz.isAgg4
 z4:=Tryz.sizeOf4
 v4:=Tryz.zeroValue4
 t9:=Tryz.underlying9
 a9:=Tryz.isAgg9
 z9:=Tryz.sizeOf9
 v9:=Tryz.zeroValue9
 t24:=Tryz.underlying146
 a24:=Tryz.isAgg146
 z24:=Tryz.sizeOf146
 v24:=Tryz.zeroValue146 }
def Tryz.lays219_ren:Go.Shelf.Ren:=⟨fun|219=>229|217=>253|225=>254|224=>255|267=>256|266=>271|314=>272|n=>n,fun|9=>9|3=>3|4=>4|5=>5|46=>226|146=>328|51=>262|n=>n,fun|1=>1|n=>n⟩
theorem Tryz.lays219:Go.Proofs.Lays.n219 Tryz.prog Tryz.lays219_ren:={
 mixed:=by kernel_rfl
 f217:=Tryz.func253.trans (congrArg some (by kernel_rfl))
 f219:=Tryz.func229.trans (congrArg some (by kernel_rfl))
 f224:=Tryz.func255.trans (congrArg some (by kernel_rfl))
 f225:=Tryz.func254.trans (congrArg some (by kernel_rfl))
 f266:=Tryz.func271.trans (congrArg some (by kernel_rfl))
 f267:=Tryz.func256.trans (congrArg some (by kernel_rfl))
 f314:=Tryz.func272.trans (congrArg some (by kernel_rfl))
 t3:=Tryz.underlying3
 a3:=Tryz.isAgg3
 z3:=Tryz.sizeOf3
 v3:=Tryz.zeroValue3
 t4:=Tryz.underlying4
 a4:=Tryz.isAgg4
 z4:=Tryz.sizeOf4
 v4:=Tryz.zeroValue4
 t5:=Tryz.underlying5
 a5:=Tryz.isAgg5
 z5:=Tryz.sizeOf5
 v5:=Tryz.zeroValue5
 t9:=Tryz.underlying9
 a9:=Tryz.isAgg9
 z9:=Tryz.sizeOf9
 v9:=Tryz.zeroValue9
 t46:=Tryz.underlying226
 a46:=Tryz.isAgg226
 z46:=Tryz.sizeOf226
 v46:=Tryz.zeroValue226
 t51:=Tryz.underlying262
 a51:=Tryz.isAgg262
 z51:=Tryz.sizeOf262
 v51:=Tryz.zeroValue262
 t146:=Tryz.underlying328
 a146:=Tryz.isAgg328
 z146:=Tryz.sizeOf328
 v146:=Tryz.zeroValue328
 g1:=by kernel_rfl }
def Tryz.lays160_ren:Go.Shelf.Ren:=⟨fun|160=>204|232=>231|231=>230|227=>232|234=>234|233=>233|236=>236|235=>235|228=>257|271=>260|151=>259|197=>258|120=>275|152=>274|260=>273|137=>282|119=>283|224=>255|225=>254|217=>253|266=>271|n=>n,fun|9=>9|4=>4|3=>3|5=>5|117=>290|116=>289|0=>0|124=>293|21=>21|105=>308|46=>226|119=>338|139=>341|138=>340|n=>n,fun|3=>4|4=>5|n=>n⟩
theorem Tryz.lays160:Go.Proofs.Lays.n160 Tryz.prog Tryz.lays160_ren:={
 mixed:=by kernel_rfl
 f119:=Tryz.func283.trans (congrArg some (by kernel_rfl))
 f120:=Tryz.func275.trans (congrArg some (by kernel_rfl))
 f137:=Tryz.func282.trans (congrArg some (by kernel_rfl))
 f151:=Tryz.func259.trans (congrArg some (by kernel_rfl))
 f152:=Tryz.func274.trans (congrArg some (by kernel_rfl))
 f160:=Tryz.func204.trans (congrArg some (by kernel_rfl))
 f197:=Tryz.func258.trans (congrArg some (by kernel_rfl))
 f217:=Tryz.func253.trans (congrArg some (by kernel_rfl))
 f224:=Tryz.func255.trans (congrArg some (by kernel_rfl))
 f225:=Tryz.func254.trans (congrArg some (by kernel_rfl))
 f227:=Tryz.func232.trans (congrArg some (by kernel_rfl))
 f228:=Tryz.func257.trans (congrArg some (by kernel_rfl))
 f231:=Tryz.func230.trans (congrArg some (by kernel_rfl))
 f232:=Tryz.func231.trans (congrArg some (by kernel_rfl))
 f233:=Tryz.func233.trans (congrArg some (by kernel_rfl))
 f234:=Tryz.func234.trans (congrArg some (by kernel_rfl))
 f235:=Tryz.func235.trans (congrArg some (by kernel_rfl))
 f236:=Tryz.func236.trans (congrArg some (by kernel_rfl))
 f260:=Tryz.func273.trans (congrArg some (by kernel_rfl))
 f266:=Tryz.func271.trans (congrArg some (by kernel_rfl))
 f271:=Tryz.func260.trans (congrArg some (by kernel_rfl))
 t0:=Tryz.underlying0
 a0:=Tryz.isAgg0
 z0:=Tryz.sizeOf0
 v0:=Tryz.zeroValue0
 t3:=Tryz.underlying3
 a3:=Tryz.isAgg3
 z3:=Tryz.sizeOf3
 v3:=Tryz.zeroValue3
 t4:=Tryz.underlying4
 a4:=Tryz.isAgg4
 z4:=Tryz.sizeOf4
 v4:=Tryz.zeroValue4
 t5:=Tryz.underlying5
 a5:=Tryz.isAgg5
 z5:=Tryz.sizeOf5
 v5:=Tryz.zeroValue5
 t9:=Tryz.underlying9
 a9:=Tryz.isAgg9
 z9:=Tryz.sizeOf9
 v9:=Tryz.zeroValue9
 t21:=Tryz.underlying21
 a21:=Tryz.isAgg21
 z21:=Tryz.sizeOf21
 v21:=Tryz.zeroValue21
 t46:=Tryz.underlying226
 a46:=Tryz.isAgg226
 z46:=Tryz.sizeOf226
 v46:=Tryz.zeroValue226
 t105:=Tryz.underlying308
 a105:=Tryz.isAgg308
 z105:=Tryz.sizeOf308
 v105:=Tryz.zeroValue308
 t116:=Tryz.underlying289
 a116:=Tryz.isAgg289
 z116:=Tryz.sizeOf289
 t117:=Tryz.underlying290
 a117:=Tryz.isAgg290
 z117:=Tryz.sizeOf290
 v117:=Tryz.zeroValue290
 t119:=Tryz.underlying338
 a119:=Tryz.isAgg338
 z119:=Tryz.sizeOf338
 t124:=Tryz.underlying293
 a124:=Tryz.isAgg293
 z124:=Tryz.sizeOf293
 v124:=Tryz.zeroValue293
 t138:=Tryz.underlying340
 a138:=Tryz.isAgg340
 z138:=Tryz.sizeOf340
 v138:=Tryz.zeroValue340
 t139:=Tryz.underlying341
 a139:=Tryz.isAgg341
 z139:=Tryz.sizeOf341
 v139:=Tryz.zeroValue341
 g3:=by kernel_rfl
 g4:=by kernel_rfl }
def Tryz.lays162_ren:Go.Shelf.Ren:=⟨fun|162=>237|232=>231|227=>232|234=>234|236=>236|228=>257|271=>260|151=>259|120=>275|197=>258|152=>274|260=>273|137=>282|119=>283|224=>255|225=>254|217=>253|266=>271|n=>n,fun|9=>9|4=>4|3=>3|5=>5|117=>290|116=>289|0=>0|124=>293|21=>21|105=>308|46=>226|119=>338|139=>341|138=>340|n=>n,fun|3=>4|4=>5|n=>n⟩
theorem Tryz.lays162:Go.Proofs.Lays.n162 Tryz.prog Tryz.lays162_ren:={
 mixed:=by kernel_rfl
 f119:=Tryz.func283.trans (congrArg some (by kernel_rfl))
 f120:=Tryz.func275.trans (congrArg some (by kernel_rfl))
 f137:=Tryz.func282.trans (congrArg some (by kernel_rfl))
 f151:=Tryz.func259.trans (congrArg some (by kernel_rfl))
 f152:=Tryz.func274.trans (congrArg some (by kernel_rfl))
 f162:=Tryz.func237.trans (congrArg some (by kernel_rfl))
 f197:=Tryz.func258.trans (congrArg some (by kernel_rfl))
 f217:=Tryz.func253.trans (congrArg some (by kernel_rfl))
 f224:=Tryz.func255.trans (congrArg some (by kernel_rfl))
 f225:=Tryz.func254.trans (congrArg some (by kernel_rfl))
 f227:=Tryz.func232.trans (congrArg some (by kernel_rfl))
 f228:=Tryz.func257.trans (congrArg some (by kernel_rfl))
 f232:=Tryz.func231.trans (congrArg some (by kernel_rfl))
 f234:=Tryz.func234.trans (congrArg some (by kernel_rfl))
 f236:=Tryz.func236.trans (congrArg some (by kernel_rfl))
 f260:=Tryz.func273.trans (congrArg some (by kernel_rfl))
 f266:=Tryz.func271.trans (congrArg some (by kernel_rfl))
 f271:=Tryz.func260.trans (congrArg some (by kernel_rfl))
 t0:=Tryz.underlying0
 a0:=Tryz.isAgg0
 z0:=Tryz.sizeOf0
 v0:=Tryz.zeroValue0
 t3:=Tryz.underlying3
 a3:=Tryz.isAgg3
 z3:=Tryz.sizeOf3
 v3:=Tryz.zeroValue3
 t4:=Tryz.underlying4
 a4:=Tryz.isAgg4
 z4:=Tryz.sizeOf4
 v4:=Tryz.zeroValue4
 t5:=Tryz.underlying5
 a5:=Tryz.isAgg5
 z5:=Tryz.sizeOf5
 v5:=Tryz.zeroValue5
 t9:=Tryz.underlying9
 a9:=Tryz.isAgg9
 z9:=Tryz.sizeOf9
 v9:=Tryz.zeroValue9
 t21:=Tryz.underlying21
 a21:=Tryz.isAgg21
 z21:=Tryz.sizeOf21
 v21:=Tryz.zeroValue21
 t46:=Tryz.underlying226
 a46:=Tryz.isAgg226
 z46:=Tryz.sizeOf226
 v46:=Tryz.zeroValue226
 t105:=Tryz.underlying308
 a105:=Tryz.isAgg308
 z105:=Tryz.sizeOf308
 v105:=Tryz.zeroValue308
 t116:=Tryz.underlying289
 a116:=Tryz.isAgg289
 z116:=Tryz.sizeOf289
 t117:=Tryz.underlying290
 a117:=Tryz.isAgg290
 z117:=Tryz.sizeOf290
 v117:=Tryz.zeroValue290
 t119:=Tryz.underlying338
 a119:=Tryz.isAgg338
 z119:=Tryz.sizeOf338
 t124:=Tryz.underlying293
 a124:=Tryz.isAgg293
 z124:=Tryz.sizeOf293
 v124:=Tryz.zeroValue293
 t138:=Tryz.underlying340
 a138:=Tryz.isAgg340
 z138:=Tryz.sizeOf340
 v138:=Tryz.zeroValue340
 t139:=Tryz.underlying341
 a139:=Tryz.isAgg341
 z139:=Tryz.sizeOf341
 v139:=Tryz.zeroValue341
 g3:=by kernel_rfl
 g4:=by kernel_rfl }
def Tryz.lays172_ren:Go.Shelf.Ren:=⟨fun|172=>261|244=>276|245=>277|247=>284|279=>285|280=>286|281=>287|282=>288|287=>290|316=>291|171=>75|205=>292|321=>293|322=>294|243=>118|246=>151|283=>180|284=>181|285=>182|286=>183|129=>202|317=>214|318=>215|319=>216|320=>217|337=>249|338=>250|n=>n,fun|9=>9|3=>3|75=>245|76=>311|4=>4|5=>5|167=>343|37=>219|0=>0|85=>344|2=>2|168=>346|53=>236|175=>349|46=>226|210=>352|127=>278|145=>357|143=>355|21=>21|171=>235|173=>239|212=>276|51=>262|20=>20|213=>277|232=>326|233=>327|80=>247|n=>n,fun|15=>6|16=>7|17=>0|18=>2|19=>3|n=>n⟩
theorem Tryz.lays172:Go.Proofs.Lays.n172 Tryz.prog Tryz.lays172_ren:={
 mixed:=by kernel_rfl
 f129:=Tryz.func202.trans (congrArg some (by kernel_rfl))
 f171:=Tryz.func75.trans (congrArg some (by kernel_rfl))
 f172:=Tryz.func261.trans (congrArg some (by kernel_rfl))
 f205:=Tryz.func292.trans (congrArg some (by kernel_rfl))
 f243:=Tryz.func118.trans (congrArg some (by kernel_rfl))
 f244:=Tryz.func276.trans (congrArg some (by kernel_rfl))
 f245:=Tryz.func277.trans (congrArg some (by kernel_rfl))
 f246:=Tryz.func151.trans (congrArg some (by kernel_rfl))
 f247:=Tryz.func284.trans (congrArg some (by kernel_rfl))
 f279:=Tryz.func285.trans (congrArg some (by kernel_rfl))
 f280:=Tryz.func286.trans (congrArg some (by kernel_rfl))
 f281:=Tryz.func287.trans (congrArg some (by kernel_rfl))
 f282:=Tryz.func288.trans (congrArg some (by kernel_rfl))
 f283:=Tryz.func180.trans (congrArg some (by kernel_rfl))
 f284:=Tryz.func181.trans (congrArg some (by kernel_rfl))
 f285:=Tryz.func182.trans (congrArg some (by kernel_rfl))
 f286:=Tryz.func183.trans (congrArg some (by kernel_rfl))
 f287:=Tryz.func290.trans (congrArg some (by kernel_rfl))
 f316:=Tryz.func291.trans (congrArg some (by kernel_rfl))
 f317:=Tryz.func214.trans (congrArg some (by kernel_rfl))
 f318:=Tryz.func215.trans (congrArg some (by kernel_rfl))
 f319:=Tryz.func216.trans (congrArg some (by kernel_rfl))
 f320:=Tryz.func217.trans (congrArg some (by kernel_rfl))
 f321:=Tryz.func293.trans (congrArg some (by kernel_rfl))
 f322:=Tryz.func294.trans (congrArg some (by kernel_rfl))
 f337:=Tryz.func249.trans (congrArg some (by kernel_rfl))
 f338:=Tryz.func250.trans (congrArg some (by kernel_rfl))
 t0:=Tryz.underlying0
 a0:=Tryz.isAgg0
 z0:=Tryz.sizeOf0
 v0:=Tryz.zeroValue0
 t2:=Tryz.underlying2
 a2:=Tryz.isAgg2
 z2:=Tryz.sizeOf2
 v2:=Tryz.zeroValue2
 t3:=Tryz.underlying3
 a3:=Tryz.isAgg3
 z3:=Tryz.sizeOf3
 v3:=Tryz.zeroValue3
 t4:=Tryz.underlying4
 a4:=Tryz.isAgg4
 z4:=Tryz.sizeOf4
 v4:=Tryz.zeroValue4
 t5:=Tryz.underlying5
 a5:=Tryz.isAgg5
 z5:=Tryz.sizeOf5
 v5:=Tryz.zeroValue5
 t9:=Tryz.underlying9
 a9:=Tryz.isAgg9
 z9:=Tryz.sizeOf9
 v9:=Tryz.zeroValue9
 t20:=Tryz.underlying20
 a20:=Tryz.isAgg20
 z20:=Tryz.sizeOf20
 v20:=Tryz.zeroValue20
 t21:=Tryz.underlying21
 a21:=Tryz.isAgg21
 z21:=Tryz.sizeOf21
 v21:=Tryz.zeroValue21
 t37:=Tryz.underlying219
 a37:=Tryz.isAgg219
 z37:=Tryz.sizeOf219
 v37:=Tryz.zeroValue219
 t46:=Tryz.underlying226
 a46:=Tryz.isAgg226
 z46:=Tryz.sizeOf226
 v46:=Tryz.zeroValue226
 t51:=Tryz.underlying262
 a51:=Tryz.isAgg262
 z51:=Tryz.sizeOf262
 v51:=Tryz.zeroValue262
 t53:=Tryz.underlying236
 a53:=Tryz.isAgg236
 z53:=Tryz.sizeOf236
 v53:=Tryz.zeroValue236
 t75:=Tryz.underlying245
 a75:=Tryz.isAgg245
 z75:=Tryz.sizeOf245
 v75:=Tryz.zeroValue245
 t76:=Tryz.underlying311
 a76:=Tryz.isAgg311
 z76:=Tryz.sizeOf311
 v76:=Tryz.zeroValue311
 t85:=Tryz.underlying344
 a85:=Tryz.isAgg344
 z85:=Tryz.sizeOf344
 v85:=Tryz.zeroValue344
 t127:=Tryz.underlying278
 a127:=Tryz.isAgg278
 z127:=Tryz.sizeOf278
 v127:=Tryz.zeroValue278
 t143:=Tryz.underlying355
 a143:=Tryz.isAgg355
 z143:=Tryz.sizeOf355
 v143:=Tryz.zeroValue355
 t145:=Tryz.underlying357
 a145:=Tryz.isAgg357
 z145:=Tryz.sizeOf357
 v145:=Tryz.zeroValue357
 t167:=Tryz.underlying343
 a167:=Tryz.isAgg343
 z167:=Tryz.sizeOf343
 v167:=Tryz.zeroValue343
 t168:=Tryz.underlying346
 a168:=Tryz.isAgg346
 z168:=Tryz.sizeOf346
 v168:=Tryz.zeroValue346
 t171:=Tryz.underlying235
 a171:=Tryz.isAgg235
 z171:=Tryz.sizeOf235
 v171:=Tryz.zeroValue235
 t173:=Tryz.underlying239
 a173:=Tryz.isAgg239
 z173:=Tryz.sizeOf239
 v173:=Tryz.zeroValue239
 t175:=Tryz.underlying349
 a175:=Tryz.isAgg349
 z175:=Tryz.sizeOf349
 v175:=Tryz.zeroValue349
 t210:=Tryz.underlying352
 a210:=Tryz.isAgg352
 z210:=Tryz.sizeOf352
 v210:=Tryz.zeroValue352
 t212:=Tryz.underlying276
 a212:=Tryz.isAgg276
 z212:=Tryz.sizeOf276
 v212:=Tryz.zeroValue276
 t213:=Tryz.underlying277
 a213:=Tryz.isAgg277
 z213:=Tryz.sizeOf277
 t232:=Tryz.underlying326
 a232:=Tryz.isAgg326
 z232:=Tryz.sizeOf326
 v232:=Tryz.zeroValue326
 t233:=Tryz.underlying327
 a233:=Tryz.isAgg327
 z233:=Tryz.sizeOf327
 v233:=Tryz.zeroValue327
 g15:=by kernel_rfl
 g16:=by kernel_rfl
 g17:=by kernel_rfl
 g18:=by kernel_rfl
 g19:=by kernel_rfl }
def Tryz.lays171_ren:Go.Shelf.Ren:=⟨fun|171=>75|243=>118|246=>151|283=>180|284=>181|285=>182|286=>183|129=>202|317=>214|318=>215|319=>216|320=>217|337=>249|338=>250|n=>n,fun|3=>3|9=>9|2=>2|4=>4|171=>235|0=>0|53=>236|37=>219|5=>5|173=>239|212=>276|51=>262|20=>20|213=>277|46=>226|232=>326|233=>327|n=>n,fun|17=>0|18=>2|19=>3|n=>n⟩
theorem Tryz.lays171:Go.Proofs.Lays.n171 Tryz.prog Tryz.lays171_ren:={
 mixed:=by kernel_rfl
 f129:=Tryz.func202.trans (congrArg some (by kernel_rfl))
 f171:=Tryz.func75.trans (congrArg some (by kernel_rfl))
 f243:=Tryz.func118.trans (congrArg some (by kernel_rfl))
 f246:=Tryz.func151.trans (congrArg some (by kernel_rfl))
 f283:=Tryz.func180.trans (congrArg some (by kernel_rfl))
 f284:=Tryz.func181.trans (congrArg some (by kernel_rfl))
 f285:=Tryz.func182.trans (congrArg some (by kernel_rfl))
 f286:=Tryz.func183.trans (congrArg some (by kernel_rfl))
 f317:=Tryz.func214.trans (congrArg some (by kernel_rfl))
 f318:=Tryz.func215.trans (congrArg some (by kernel_rfl))
 f319:=Tryz.func216.trans (congrArg some (by kernel_rfl))
 f320:=Tryz.func217.trans (congrArg some (by kernel_rfl))
 f337:=Tryz.func249.trans (congrArg some (by kernel_rfl))
 f338:=Tryz.func250.trans (congrArg some (by kernel_rfl))
 t0:=Tryz.underlying0
 a0:=Tryz.isAgg0
 z0:=Tryz.sizeOf0
 v0:=Tryz.zeroValue0
 t2:=Tryz.underlying2
 a2:=Tryz.isAgg2
 z2:=Tryz.sizeOf2
 v2:=Tryz.zeroValue2
 t3:=Tryz.underlying3
 a3:=Tryz.isAgg3
 z3:=Tryz.sizeOf3
 v3:=Tryz.zeroValue3
 t4:=Tryz.underlying4
 a4:=Tryz.isAgg4
 z4:=Tryz.sizeOf4
 v4:=Tryz.zeroValue4
 t5:=Tryz.underlying5
 a5:=Tryz.isAgg5
 z5:=Tryz.sizeOf5
 v5:=Tryz.zeroValue5
 t9:=Tryz.underlying9
 a9:=Tryz.isAgg9
 z9:=Tryz.sizeOf9
 v9:=Tryz.zeroValue9
 t20:=Tryz.underlying20
 a20:=Tryz.isAgg20
 z20:=Tryz.sizeOf20
 v20:=Tryz.zeroValue20
 t37:=Tryz.underlying219
 a37:=Tryz.isAgg219
 z37:=Tryz.sizeOf219
 v37:=Tryz.zeroValue219
 t46:=Tryz.underlying226
 a46:=Tryz.isAgg226
 z46:=Tryz.sizeOf226
 v46:=Tryz.zeroValue226
 t51:=Tryz.underlying262
 a51:=Tryz.isAgg262
 z51:=Tryz.sizeOf262
 v51:=Tryz.zeroValue262
 t53:=Tryz.underlying236
 a53:=Tryz.isAgg236
 z53:=Tryz.sizeOf236
 v53:=Tryz.zeroValue236
 t171:=Tryz.underlying235
 a171:=Tryz.isAgg235
 z171:=Tryz.sizeOf235
 v171:=Tryz.zeroValue235
 t173:=Tryz.underlying239
 a173:=Tryz.isAgg239
 z173:=Tryz.sizeOf239
 v173:=Tryz.zeroValue239
 t212:=Tryz.underlying276
 a212:=Tryz.isAgg276
 z212:=Tryz.sizeOf276
 v212:=Tryz.zeroValue276
 t213:=Tryz.underlying277
 a213:=Tryz.isAgg277
 z213:=Tryz.sizeOf277
 t232:=Tryz.underlying326
 a232:=Tryz.isAgg326
 z232:=Tryz.sizeOf326
 v232:=Tryz.zeroValue326
 t233:=Tryz.underlying327
 a233:=Tryz.isAgg327
 z233:=Tryz.sizeOf327
 v233:=Tryz.zeroValue327
 g17:=by kernel_rfl
 g18:=by kernel_rfl
 g19:=by kernel_rfl }
end Go.Proofs
section
namespace Go.Ir
open Go.Proofs Go.RowKit
theorem Hp.below {W0:World} {σ:Sto} {n:Nat} {μ:Id->Option Value} {H:Addr->Option Value} {w w':World} (hp:Hp W0 σ n μ H w) (hb:Below w.heap.size w w'):Hp W0 σ n μ H w'/\Fr μ H σ w μ H σ w':=by
 have ht:Turned (fun _=>False) w w':=⟨hb.os,hb.tape,hb.output,hb.size,fun k hk _=>hb.block k hk⟩
 refine ⟨⟨hp.base_turned ht (fun _ h=>h.elim),hp.pins_turned ht (fun _ h=>h.elim),fun id e hl=>?_,hp.unp,hp.sep,hp.bd⟩,⟨fun _ _ h=>h,fun _ _ h=>h,hb.size,fun bk hk _=>hb.block bk hk,fun _ _ _=>rfl,fun _ _ h=>h⟩⟩
 exact (hp.ents id e hl).keep (fun _ _ h=>h) (fun _ _ h=>h) (fun bk hk=>hb.block bk ((hp.ents id e hl).block hk).2)
theorem retS_of_calls {P:Program} {W0:World} {f:FuncId} {args:List V} {v:V} (hc:callable P f=true)
  (h:∀w vals,Below W0.heap.size W0 w->(∃μ H,VRels μ H args vals)->Calls P f vals.toArray w fun e w'=>∃val,e = .returned val/\(∀μ H,VRel μ H v val)/\Below w.heap.size w w'):RetS P W0 f args [] v [] where
 callable:=hc
 dom id h:=h
 run n w μ H vals hp hv:=by
  refine (h w vals hp.base ⟨μ,H,hv⟩).mono fun e w' ⟨val,he,hr,hb⟩=>?_
  obtain ⟨h1,h2⟩:=hp.below hb
  exact ⟨val,μ,H,n,he,hr μ H,h1,Nat.le_refl _,h2,fun _ _ h=>h⟩
theorem VRels.one_s {μ:Id->Option Value} {H:Addr->Option Value} {l:Bytes} {vals:List Value} (h:VRels μ H [.s l] vals):vals=[.string ⟨l.toArray⟩]/\l.length<=SLim:=by
 obtain ⟨v,h1,h2⟩:=h.get (k:=0) rfl
 have:=h.len
 match vals,this,h1 with
 | [x],_,h1=>
  simp at h1
  subst h1
  cases h2 with
  | s l hl=>exact ⟨rfl,hl⟩
theorem VRels.two {μ:Id->Option Value} {H:Addr->Option Value} {a b:V} {vals:List Value} (h:VRels μ H [a,b] vals):∃x y,vals=[x,y]/\VRel μ H a x/\VRel μ H b y:=by
 have:=h.len
 match vals,this with
 | [x,y],_=>exact ⟨x,y,rfl,h.at_ 0 _ _ rfl rfl,h.at_ 1 _ _ rfl rfl⟩
variable (W0 : World)
theorem str_of {l:Bytes} {μ:Id->Option Value} {H:Addr->Option Value} {x:Value} (h:VRel μ H (.s l) x):x = .string ⟨l.toArray⟩/\l.length<=SLim:=by
 cases h with
 | s l hl=>exact ⟨rfl,hl⟩
theorem pair_rel {a b:V} {x y:Value} (h1:∀μ H,VRel μ H a x) (h2:∀μ H,VRel μ H b y):∀μ H,VRel μ H (.tup [a,b]) (.tuple #[x,y]):=
 fun μ H=>VRel.tup [a,b] [x,y] rfl fun k c v hc hv=>by
  match k with
  | 0=>simp at hc hv;subst hc hv;exact h1 μ H
  | 1=>simp at hc hv;subst hc hv;exact h2 μ H
  | k+2=>simp at hc
theorem trimR_le (s cs:Bytes):(Lib.trimRightS s cs).length<=s.length:=by
 unfold Lib.trimRightS
 rw [List.length_reverse]
 exact Nat.le_trans (List.dropWhile_sublist _).length_le (by simp)
theorem trim_le (s cs:Bytes):(Lib.trimS s cs).length<=s.length:=by
 unfold Lib.trimS Lib.trimLeftS
 exact Nat.le_trans (List.dropWhile_sublist _).length_le (trimR_le s cs)
theorem c_cutPrefix (s p:Bytes):RetS Tryz.prog W0 73 [.s s,.s p] [] (.tup [.s (Lib.trimPrefix s p),.b (Lib.hasPrefix s p)]) []:=by
 refine retS_of_calls (by kernel_rfl) fun w vals hb ⟨μ,H,hv⟩=>?_
 obtain ⟨x,y,rfl,hx,hy⟩:=hv.two
 obtain ⟨rfl,hl⟩:=str_of hx
 obtain ⟨rfl,_⟩:=str_of hy
 refine (Any.strings_CutPrefix Tryz.lays103 ⟨s.toArray⟩ ⟨p.toArray⟩ w).mono fun e w' ⟨he,hw⟩=>?_
 subst hw
 refine ⟨_,he,pair_rel (fun _ _=>.s _ ?_) (fun _ _=>.b _),Below.refl _ _⟩
 unfold Lib.trimPrefix
 split
 ·rw [List.length_drop];omega
 ·exact hl
theorem c_index1 (s:Bytes) (c:UInt8):RetS Tryz.prog W0 229 [.s s,.s [c]] [] (.i .i64 (Lib.indexByte s c)) []:=by
 refine retS_of_calls (by kernel_rfl) fun w vals hb ⟨μ,H,hv⟩=>?_
 obtain ⟨x,y,rfl,hx,hy⟩:=hv.two
 obtain ⟨rfl,hl⟩:=str_of hx
 obtain ⟨rfl,_⟩:=str_of hy
 refine (Any.stringslite_Index_one Tryz.lays219 ⟨s.toArray⟩ c w).mono fun e w' ⟨he,hw⟩=>?_
 subst hw
 exact ⟨_,he,fun _ _=>.i _ _,Below.refl _ _⟩
theorem c_trim (s cs:Bytes) (hcs:cs.length<4294967281) (ha:∀b∈cs,b.toNat<128):RetS Tryz.prog W0 204 [.s s,.s cs] [] (.s (Lib.trimS s cs)) []:=by
 refine retS_of_calls (by kernel_rfl) fun w vals hb ⟨μ,H,hv⟩=>?_
 obtain ⟨x,y,rfl,hx,hy⟩:=hv.two
 obtain ⟨rfl,hl⟩:=str_of hx
 obtain ⟨rfl,_⟩:=str_of hy
 refine (Any.strings_Trim_laid Tryz.lays160 (by kernel_rfl) ⟨s.toArray⟩ ⟨cs.toArray⟩ w (by show s.toArray.size<=_;unfold SLim at hl;simp;omega) (by simpa [ByteArray.size] using hcs) (fun j b hj=>ha b (List.mem_of_getElem? hj))).mono fun e w' ⟨he,hw⟩=>?_
 exact ⟨_,he,fun _ _=>.s _ (Nat.le_trans (trim_le s cs) hl),hw⟩
theorem c_trimR (s cs:Bytes) (hcs:cs.length<4294967281) (ha:∀b∈cs,b.toNat<128):RetS Tryz.prog W0 237 [.s s,.s cs] [] (.s (Lib.trimRightS s cs)) []:=by
 refine retS_of_calls (by kernel_rfl) fun w vals hb ⟨μ,H,hv⟩=>?_
 obtain ⟨x,y,rfl,hx,hy⟩:=hv.two
 obtain ⟨rfl,hl⟩:=str_of hx
 obtain ⟨rfl,_⟩:=str_of hy
 refine (Any.strings_TrimRight_laid Tryz.lays162 (by kernel_rfl) ⟨s.toArray⟩ ⟨cs.toArray⟩ w (by show s.toArray.size<=_;unfold SLim at hl;simp;omega) (by simpa [ByteArray.size] using hcs) (fun j b hj=>ha b (List.mem_of_getElem? hj))).mono fun e w' ⟨he,hw⟩=>?_
 exact ⟨_,he,fun _ _=>.s _ (Nat.le_trans (trimR_le s cs) hl),hw⟩
theorem c_atoi (s:Bytes) (n:Int) (hs:s.length<=18) (hn:Lib.atoi s=some n):RetS Tryz.prog W0 261 [.s s] [] (.tup [.i .i64 n,.ni]) []:=by
 refine retS_of_calls (by kernel_rfl) fun w vals hb ⟨μ,H,hv⟩=>?_
 obtain ⟨rfl,hl⟩:=hv.one_s
 refine (Any.strconv_Atoi Tryz.lays172 ⟨s.toArray⟩ n (by simpa [ByteArray.size] using hs) hn w).mono fun e w' ⟨he,t,hw⟩=>?_
 refine ⟨_,he,pair_rel (fun _ _=>.i _ _) (fun _ _=>.ni),?_⟩
 rw [hw]
 exact Lib.bytesWorld_below _ _ _
theorem c_itoa (i:Nat) (hi:i<100):RetS Tryz.prog W0 75 [.i .i64 i] [] (.s (Lib.decDigits i)) []:=by
 refine retS_of_calls (by kernel_rfl) fun w vals hb ⟨μ,H,hv⟩=>?_
 have hlen:=hv.len
 obtain ⟨x,rfl⟩:∃x,vals=[x]:=by
  match vals,hlen with
  | [x],_=>exact ⟨x,rfl⟩
 have hx:=hv.at_ 0 _ _ rfl rfl
 cases hx
 refine (Any.strconv_Itoa_small Tryz.lays171 i hi w).mono fun e w' ⟨he,hw⟩=>?_
 subst hw
 refine ⟨_,he,fun _ _=>.s _ ?_,Below.refl _ _⟩
 unfold SLim
 unfold Lib.decDigits
 split
 ·simp
 ·unfold Lib.decDigits
  rw [dif_pos (by omega)]
  simp
end Go.Ir
end
namespace Go.Ir
open Go.Proofs
variable {P : Program} {W0 : World} {nt n : Nat} {Q : Exit → St → Prop} {env : Env} {σ : Sto}
def f170_2:IC:=.seq (.ops [m1 7 0,m1 8 1,o1 9 (.call 203 [.t 7,.t 8]),o1 10 (.ext (.t 9) 0),o1 11 (.ext (.t 9) 1),o1 12 (.ext (.t 9) 2),m1 4 10,m1 5 11,m1 6 12] [4,5,6] []) .ret
def f170_0:IC:=.seq (.ops [o1 4 (.mv (.c (.s []))),o1 5 (.mv (.c (.s []))),o1 6 (.mv (.c (.b false)))] [0,1] []) f170_2
@[push_cast]def f170R:List R:=[.t 4,.t 5,.t 6]
@[push_cast]def f170e:=aWv f170_2.eq_1<|aWu f170_0.eq_1
theorem f170ok:okFn Tryz.prog 170 13 f170_0 f170R=true:=by kernel_rfl
def f203_8:IC:=.seq (.ops [m1 13 0,m1 14 7,o1 15 (.slS (.t 13) none (some (.t 14))),m1 16 0,m1 17 7,m1 18 1,o1 19 (.lenS (.t 18)),o1 20 (.bin .add (.t 17) (.t 19)),o1 21 (.slS (.t 16) (some (.t 20)) none),m1 4 15,m1 5 21,o1 6 (.mv (.c (.b true)))] [4,5,6] [[0,2],[1,2],[5,6],[4,7],[6,7],[3,8],[7,8],[2,9],[8,10]]) .ret
def f203_5:IC:=.seq (.ops [m1 11 7,o1 12 (.bin .geq (.t 11) (ci 0))] [0,1,7,12] []) (.cond (.t 12) f203_8 .skip)
def f203_10:IC:=.seq (.ops [m1 22 0,m1 4 22,o1 5 (.mv (.c (.s []))),o1 6 (.mv (.c (.b false)))] [4,5,6] []) .ret
def f203_2:IC:=.seq (.seq (.ops [m1 8 0,m1 9 1,o1 10 (.call 229 [.t 8,.t 9]),m1 7 10] [0,1,7] []) f203_5) f203_10
def f203_0:IC:=.seq (.ops [o1 4 (.mv (.c (.s []))),o1 5 (.mv (.c (.s []))),o1 6 (.mv (.c (.b false)))] [0,1] []) f203_2
@[push_cast]def f203R:List R:=[.t 4,.t 5,.t 6]
@[push_cast]def f203e:=aWv f203_8.eq_1<|aWv f203_5.eq_1<|aWv f203_10.eq_1<|aWv f203_2.eq_1<|aWu f203_0.eq_1
theorem f203ok:okFn Tryz.prog 203 23 f203_0 f203R=true:=by kernel_rfl
def f171_2:IC:=.seq (.ops [m1 3 0,o1 4 (.call 204 [.t 3,(.c (.s [48,49,50,51,52,53,54,55,56,57]))]),o1 5 (.bin .eql (.t 4) (.c (.s []))),m1 2 5] [2] []) .ret
def f171_0:IC:=.seq (.ops [o1 2 (.mv (.c (.b false)))] [0] []) f171_2
@[push_cast]def f171R:List R:=[.t 2]
@[push_cast]def f171e:=aWv f171_2.eq_1<|aWu f171_0.eq_1
theorem f171ok:okFn Tryz.prog 171 6 f171_0 f171R=true:=by kernel_rfl
def f205_2:IC:=.seq (.ops [m1 3 0,o1 4 (.call 204 [.t 3,(.c (.s [48]))]),o1 5 (.bin .eql (.t 4) (.c (.s []))),m1 2 5] [2] []) .ret
def f205_0:IC:=.seq (.ops [o1 2 (.mv (.c (.b false)))] [0] []) f205_2
@[push_cast]def f205R:List R:=[.t 2]
@[push_cast]def f205e:=aWv f205_2.eq_1<|aWu f205_0.eq_1
theorem f205ok:okFn Tryz.prog 205 6 f205_0 f205R=true:=by kernel_rfl
def f172_2:IC:=.seq (.ops [o1 3 (.faddr (.t 1) 1),o1 4 (.load (.t 3) 1 false),o1 5 (.call 205 [.t 4]),m1 6 5,⟨some 7,.faddr (.t 1) 2,some (6,true),[]⟩,⟨some 8,.load (.t 7) 1 false,some (6,true),[]⟩,⟨some 9,.call 205 [.t 8],some (6,true),[]⟩,o1 10 (.pick (.t 6) (.t 9) (.c (.b false))),m1 2 10] [2] []) .ret
def f172_0:IC:=.seq (.ops [o1 1 (.box (.t 0)),o1 2 (.mv (.c (.b false)))] [1] []) f172_2
@[push_cast]def f172R:List R:=[.t 2]
@[push_cast]def f172e:=aWv f172_2.eq_1<|aWu f172_0.eq_1
theorem f172ok:okFn Tryz.prog 172 11 f172_0 f172R=true:=by kernel_rfl
def f147_13:IC:=.seq (.ops [o1 49 (.load (.t 9) 3 true),o0 (.store (.t 2) (.t 49) 3),o1 3 (.mv (.c (.b false)))] [2,3] []) .ret
def f147_18:IC:=.seq (.ops [o1 67 (.load (.t 9) 3 true),o0 (.store (.t 2) (.t 67) 3),o1 3 (.mv (.c (.b false)))] [2,3] []) .ret
def f147_15:IC:=.seq (.ops [m1 51 8,m1 52 51,⟨some 53,.mv (.t 7),some (52,true),[]⟩,⟨some 54,.lenS (.t 53),some (52,true),[]⟩,⟨some 55,.bin .eql (.t 54) (ci 0),some (52,true),[]⟩,o1 56 (.pick (.t 52) (.t 55) (.c (.b false))),m1 57 56,⟨some 58,.mv (.t 7),some (57,false),[]⟩,⟨some 59,.lenS (.t 58),some (57,false),[]⟩,⟨some 60,.bin .gtr (.t 59) (ci 6),some (57,false),[]⟩,o1 61 (.pick (.t 57) (.c (.b true)) (.t 60)),m1 62 61,⟨some 63,.mv (.t 7),some (62,false),[]⟩,⟨some 64,.call 171 [.t 63],some (62,false),[]⟩,⟨some 65,.not (.t 64),some (62,false),[]⟩,o1 66 (.pick (.t 62) (.c (.b true)) (.t 65)),m1 50 66] [2,5,9,50] []) (.cond (.t 50) f147_18 .skip)
def f147_20:IC:=.seq (.ops [o1 68 (.load (.t 9) 3 true),m1 69 5,o1 70 (.not (.t 69)),m1 71 70,⟨some 72,.load (.t 9) 3 true,some (71,false),[]⟩,⟨some 73,.call 172 [.t 72],some (71,false),[]⟩,⟨some 74,.not (.t 73),some (71,false),[]⟩,o1 75 (.pick (.t 71) (.c (.b true)) (.t 74)),o0 (.store (.t 2) (.t 68) 3),m1 3 75] [2,3] [[1,2],[2,3],[3,4],[3,5],[4,5],[3,6],[5,6],[3,7],[6,7],[0,8],[4,5,8],[7,9]]) .ret
def f147_8:IC:=.seq (.block 0 (.seq (.ops [m1 26 6,o1 27 (.lenS (.t 26)),o1 28 (.bin .lss (.t 27) (ci 1)),m1 29 28,⟨some 30,.mv (.t 6),some (29,false),[]⟩,⟨some 31,.lenS (.t 30),some (29,false),[]⟩,⟨some 32,.bin .gtr (.t 31) (ci 15),some (29,false),[]⟩,o1 33 (.pick (.t 29) (.c (.b true)) (.t 32)),m1 34 33,⟨some 35,.mv (.t 6),some (34,false),[]⟩,⟨some 36,.call 171 [.t 35],some (34,false),[]⟩,⟨some 37,.not (.t 36),some (34,false),[]⟩,o1 38 (.pick (.t 34) (.c (.b true)) (.t 37)),m1 39 38,⟨some 40,.mv (.t 6),some (39,false),[]⟩,⟨some 41,.lenS (.t 40),some (39,false),[]⟩,⟨some 42,.bin .gtr (.t 41) (ci 1),some (39,false),[]⟩,⟨some 43,.mv (.t 42),some (39,false),[]⟩,⟨some 44,.mv (.t 6),some (43,true),[]⟩,⟨some 45,.idx (.t 44) (ci 0),some (43,true),[]⟩,⟨some 46,.bin .eql (.t 45) (.c (.i .u8 48)),some (43,true),[]⟩,⟨some 47,.pick (.t 43) (.t 46) (.c (.b false)),some (39,false),[]⟩,o1 48 (.pick (.t 39) (.c (.b true)) (.t 47)),m1 25 48] [2,5,7,8,9,25] []) (.cond (.t 25) f147_13 f147_15))) f147_20
def f147_6:IC:=.seq (.ops [m1 21 5,m1 22 6,m1 23 7,o1 24 (.build [(.b false),(.s []),(.s [])] [(0,1,(.t 21)),(1,1,(.t 22)),(2,1,(.t 23))]),o1 9 (.alloc (.agg [(.b false),(.s []),(.s [])])),o0 (.store (.t 9) (.t 24) 3)] [2,5,6,7,8,9] []) f147_8
def f147_4:IC:=.seq (.ops [m1 16 4,o1 17 (.call 170 [.t 16,(.c (.s [46]))]),m1 15 17,o1 18 (.ext (.t 15) 0),o1 19 (.ext (.t 15) 1),o1 20 (.ext (.t 15) 2),m1 6 18,m1 7 19,m1 8 20] [2,5,6,7,8] []) f147_6
def f147_2:IC:=.seq (.ops [m1 11 0,o1 12 (.call 73 [.t 11,(.c (.s [45]))]),m1 10 12,o1 13 (.ext (.t 10) 0),o1 14 (.ext (.t 10) 1),m1 4 13,m1 5 14] [2,4,5] []) f147_4
def f147_0:IC:=.seq (.ops [o1 2 (.alloc (.agg [(.b false),(.s []),(.s [])])),o1 3 (.mv (.c (.b false)))] [0,2] []) f147_2
@[push_cast]def f147R:List R:=[.c 2 3 true,.t 3]
@[push_cast]def f147e:=aWv f147_13.eq_1<|aWv f147_18.eq_1<|aWv f147_15.eq_1<|aWv f147_20.eq_1<|aWv f147_8.eq_1<|aWv f147_6.eq_1<|aWv f147_4.eq_1<|aWv f147_2.eq_1<|aWu f147_0.eq_1
theorem f147ok:okFn Tryz.prog 147 76 f147_0 f147R=true:=by kernel_rfl
def f108_2:IC:=.seq (.ops [m1 6 0,o1 7 (.call 147 [.t 6]),m1 5 7,o1 8 (.ext (.t 5) 0),o1 9 (.ext (.t 5) 1),o1 3 (.alloc (.agg [(.b false),(.s []),(.s [])])),o0 (.store (.t 3) (.t 8) 3),m1 4 9] [4] []) (.seq (.ops [m1 10 4,m1 2 10] [2] []) .ret)
def f108_0:IC:=.seq (.ops [o1 2 (.mv (.c (.b false)))] [0] []) f108_2
@[push_cast]def f108R:List R:=[.t 2]
@[push_cast]def f108e:=aWv f108_2.eq_1<|aWu f108_0.eq_1
theorem f108ok:okFn Tryz.prog 108 11 f108_0 f108R=true:=by kernel_rfl
def f238_2:IC:=.seq (.ops [m1 6 0,o1 7 (.bin .add (.c (.s [48])) (.t 6)),o1 8 (.call 261 [.t 7]),m1 5 8,o1 9 (.ext (.t 5) 0),o1 10 (.ext (.t 5) 1),m1 3 9,m1 4 10] [3] []) (.seq (.ops [m1 11 3,m1 2 11] [2] []) .ret)
def f238_0:IC:=.seq (.ops [o1 2 (.mv (ci 0))] [0] []) f238_2
@[push_cast]def f238R:List R:=[.t 2]
@[push_cast]def f238e:=aWv f238_2.eq_1<|aWu f238_0.eq_1
theorem f238ok:okFn Tryz.prog 238 12 f238_0 f238R=true:=by kernel_rfl
def f207_25:IC:=.seq (.ops [o1 24 (.faddr (.t 6) 1),o1 25 (.load (.t 24) 1 false),o1 26 (.call 238 [.t 25]),m1 4 26,o1 5 (.mv (ci 0))] [4,5] []) .ret
def f207_19:IC:=.seq (.seq (.ops [m1 22 8,o1 23 (.bin .neq (.t 22) (.c (.s [])))] [6,23] []) (.cond (.t 23) (.seq (.ops [o1 4 (.mv (ci 0)),o1 5 (.mv (ci 8))] [4,5] []) .ret) .skip)) f207_25
def f207_30:IC:=.seq (.ops [o1 29 (.faddr (.t 6) 1),o1 30 (.load (.t 29) 1 false),o1 31 (.call 238 [.t 30]),m1 4 31,o1 5 (.mv (ci 0))] [4,5] []) .ret
def f207_35:IC:=.seq (.ops [o1 34 (.faddr (.t 6) 2),o1 35 (.load (.t 34) 1 false),o1 36 (.lenS (.t 35)),m1 4 36,o1 5 (.mv (ci 0))] [4,5] []) .ret
def f207_45:IC:=.seq (.ops [o1 43 (.faddr (.t 6) 2),o1 44 (.load (.t 43) 1 false),o1 45 (.call 238 [.t 44]),m1 4 45,o1 5 (.mv (ci 0))] [4,5] []) .ret
def f207_49:IC:=.cond (.t 46) (.seq (.ops [m1 48 8,o1 49 (.call 238 [.t 48]),m1 4 49,o1 5 (.mv (ci 0))] [4,5] []) .ret) .skip
def f207_44:IC:=.cond (.t 41) f207_45 (.seq (.ops [o1 47 (.bin .eql (.t 19) (ci 6)),m1 46 47] [8,46] []) f207_49)
def f207_39:IC:=.cond (.t 37) (.seq (.ops [m1 39 8,o1 40 (.lenS (.t 39)),m1 4 40,o1 5 (.mv (ci 0))] [4,5] []) .ret) (.seq (.ops [o1 42 (.bin .eql (.t 19) (ci 5)),m1 41 42] [6,8,19,41] []) f207_44)
def f207_34:IC:=.cond (.t 32) f207_35 (.seq (.ops [o1 38 (.bin .eql (.t 19) (ci 4)),m1 37 38] [6,8,19,37] []) f207_39)
def f207_29:IC:=.cond (.t 27) f207_30 (.seq (.ops [o1 33 (.bin .eql (.t 19) (ci 3)),m1 32 33] [6,8,19,32] []) f207_34)
def f207_18:IC:=.cond (.t 20) f207_19 (.seq (.ops [o1 28 (.bin .eql (.t 19) (ci 2)),m1 27 28] [6,8,19,27] []) f207_29)
def f207_12:IC:=.seq (.seq (.ops [m1 19 1] [6,8,19] []) (.block 0 (.seq (.ops [o1 21 (.bin .eql (.t 19) (ci 1)),m1 20 21] [6,8,19,20] []) f207_18))) (.seq (.ops [o1 4 (.mv (ci 0)),o1 5 (.mv (ci 1))] [4,5] []) .ret)
def f207_10:IC:=.seq (.ops [o1 16 (.faddr (.t 6) 2),o1 17 (.load (.t 16) 1 false),o1 18 (.call 237 [.t 17,(.c (.s [48]))]),m1 8 18] [1,6,8] []) f207_12
def f207_4:IC:=.seq (.seq (.ops [m1 14 7,o1 15 (.not (.t 14))] [1,6,15] []) (.cond (.t 15) (.seq (.ops [o1 4 (.mv (ci 0)),o1 5 (.mv (ci 1))] [4,5] []) .ret) .skip)) f207_10
def f207_2:IC:=.seq (.ops [m1 10 0,o1 11 (.call 147 [.t 10]),m1 9 11,o1 12 (.ext (.t 9) 0),o1 13 (.ext (.t 9) 1),o1 6 (.alloc (.agg [(.b false),(.s []),(.s [])])),o0 (.store (.t 6) (.t 12) 3),m1 7 13] [1,6,7] []) f207_4
def f207_0:IC:=.seq (.ops [o1 4 (.mv (ci 0)),o1 5 (.mv (ci 0))] [0,1] []) f207_2
@[push_cast]def f207R:List R:=[.t 4,.t 5]
@[push_cast]def f207e:=aWv f207_25.eq_1<|aWv f207_19.eq_1<|aWv f207_30.eq_1<|aWv f207_35.eq_1<|aWv f207_45.eq_1<|aWv f207_49.eq_1<|aWv f207_44.eq_1<|aWv f207_39.eq_1<|aWv f207_34.eq_1<|aWv f207_29.eq_1<|aWv f207_18.eq_1<|aWv f207_12.eq_1<|aWv f207_10.eq_1<|aWv f207_4.eq_1<|aWv f207_2.eq_1<|aWu f207_0.eq_1
theorem f207ok:okFn Tryz.prog 207 50 f207_0 f207R=true:=by kernel_rfl
end Go.Ir
namespace Go.Ir
open Go.Proofs
variable (W0 : World)
theorem c_cutL (w r:Bytes) (h:∀x∈w,(x != 46)=true) (hr:∀x∈r.head?,(x != 46)=false) (hb:w.length<=2^40):RetS Tryz.prog W0 203 [.s (w++r),.s [46]] [] (.tup [.s w,.s r.tail,.b (!r.isEmpty)]) []:=by
 cases r with
 | nil=>
  refine fn_retW (vs:=[.s w,.s [],.b false]) f203ok (by simp) (by simp) fun n0 hn0=>?_
  clear hn0
  simp only [push_cast,seval,reduceEqDiff]
  repeat' (first|(((first|apply condU_s|apply gdU_t|apply gdU_f)<;>intro _h)<;>(simp only [push_cast,seval,reduceEqDiff,_h,cut_miss h];try (have _g:=_h;simp at _g)))|(refine c_call (by exact c_index1 W0 _ _) ?_;simp only [push_cast,seval,reduceEqDiff,cut_miss h])|intro _)
  all_goals (first|(refine finW_ret ?_;simp [get]<;>(intros;omega);done)|(refine finW_rets ?_;simp [push_cast,get];done)|skip)
 | cons c t=>
  have:c=46:=by have:=hr c (by simp);simpa using this
  subst this
  refine fn_retW (vs:=[.s w,.s t,.b true]) f203ok (by simp) (by simp) fun n0 hn0=>?_
  clear hn0
  simp only [push_cast,seval,reduceEqDiff]
  repeat' (first|(((first|apply condU_s|apply gdU_t|apply gdU_f)<;>intro _h)<;>(simp only [push_cast,seval,reduceEqDiff,_h,cut_hit h,wrap_zip (46:UInt8) (done:=w) (by omega)];try (have _g:=_h;simp at _g)))|(refine c_call (by exact c_index1 W0 _ _) ?_;simp only [push_cast,seval,reduceEqDiff,cut_hit h,wrap_zip (46:UInt8) (done:=w) (by omega)])|intro _)
  all_goals (first|(refine finW_ret ?_;simp [get]<;>(intros;omega);done)|(refine finW_rets ?_;simp [push_cast,get];done)|skip)
theorem c_cut (w r:Bytes) (h:∀x∈w,(x != 46)=true) (hr:∀x∈r.head?,(x != 46)=false) (hb:w.length<=2^40):RetS Tryz.prog W0 170 [.s (w++r),.s [46]] [] (.tup [.s w,.s r.tail,.b (!r.isEmpty)]) []:=by
 refine fn_retW (vs:=[.s w,.s r.tail,.b (!r.isEmpty)]) f170ok (by simp) (by simp) fun n0 hn0=>?_
 clear hn0
 simp only [push_cast,seval,reduceEqDiff]
 repeat' (first|(((first|apply condU_s|apply gdU_t|apply gdU_f)<;>intro _h)<;>(simp only [push_cast,seval,reduceEqDiff,_h];try (have _g:=_h;simp at _g)))|(refine c_call (by exact c_cutL W0 w r h hr hb) ?_;simp only [push_cast,seval,reduceEqDiff])|intro _)
 all_goals (first|(refine finW_ret ?_;simp [get]<;>(intros;omega);done)|(refine finW_rets ?_;simp [push_cast,get];done)|skip)
theorem c_digits (s:Bytes):RetS Tryz.prog W0 171 [.s s] [] (.b (digitsB s)) []:=by
 refine fn_retW (vs:=[.b (digitsB s)]) f171ok (by simp) (by simp) fun n0 hn0=>?_
 clear hn0
 simp only [push_cast,seval,reduceEqDiff]
 repeat' (first|(((first|apply condU_s|apply gdU_t|apply gdU_f)<;>intro _h)<;>(simp only [push_cast,seval,reduceEqDiff,_h,trimS_digits];try (have _g:=_h;simp at _g)))|(refine c_call (by exact c_trim W0 _ _ (by decide) (by decide)) ?_;simp only [push_cast,seval,reduceEqDiff,trimS_digits])|intro _)
 all_goals (first|(refine finW_ret ?_;simp [get]<;>(intros;omega);done)|(refine finW_rets ?_;simp [push_cast,get];done)|skip)
theorem c_zero (s:Bytes):RetS Tryz.prog W0 205 [.s s] [] (.b (zeroB s)) []:=by
 refine fn_retW (vs:=[.b (zeroB s)]) f205ok (by simp) (by simp) fun n0 hn0=>?_
 clear hn0
 simp only [push_cast,seval,reduceEqDiff]
 repeat' (first|(((first|apply condU_s|apply gdU_t|apply gdU_f)<;>intro _h)<;>(simp only [push_cast,seval,reduceEqDiff,_h,trimS_zero];try (have _g:=_h;simp at _g)))|(refine c_call (by exact c_trim W0 _ _ (by decide) (by decide)) ?_;simp only [push_cast,seval,reduceEqDiff,trimS_zero])|intro _)
 all_goals (first|(refine finW_ret ?_;simp [get]<;>(intros;omega);done)|(refine finW_rets ?_;simp [push_cast,get];done)|skip)
def numV (s:Bytes):V:=.agg [.b (nNeg s),.s (nWhole s),.s (nFrac s)]
theorem c_nzero (s:Bytes):RetS Tryz.prog W0 172 [numV s] [] (.b (zeroB (nWhole s)&&zeroB (nFrac s))) []:=by
 unfold numV
 refine fn_retW (vs:=[.b (zeroB (nWhole s)&&zeroB (nFrac s))]) f172ok (by simp) (by simp) fun n0 hn0=>?_
 clear hn0
 simp only [push_cast,seval,reduceEqDiff]
 repeat' (first|(((first|apply condU_s|apply gdU_t|apply gdU_f)<;>intro _h)<;>(simp only [push_cast,seval,reduceEqDiff,_h];try (have _g:=_h;simp at _g)))|(refine c_call (by exact c_zero W0 _) ?_;simp only [push_cast,seval,reduceEqDiff])|intro _)
 all_goals (first|(refine finW_ret ?_;simp [get, *]<;>(intros;omega);done)|(refine finW_rets ?_;simp [push_cast,get, *];done)|skip)
theorem c_cutN (s:Bytes) (hb:s.length<=2^40):RetS Tryz.prog W0 170 [.s (nRest s),.s [46]] [] (.tup [.s (nWhole s),.s (nFrac s),.b (!(nRem s).isEmpty)]) []:=by
 have:=nWhole_le s
 rw [nRest_eq]
 exact c_cut W0 _ _ (takeWhile_all _) (head_rem s) (by omega)
theorem c_split (s:Bytes) (hb:s.length<=2^40):RetS Tryz.prog W0 147 [.s s] [] (.tup [numV s,.b (numB s)]) []:=by
 generalize hS:numB s=S
 unfold numB at hS
 rcases hW:(nWhole s)[0]? with _|c
 ·have hl0:(nWhole s).length=0:=by simpa using hW
  rw [hl0] at hS
  subst hS
  refine fn_retW (vs:=[numV s,.b _]) f147ok (by simp) (by simp) fun n0 hn0=>?_
  clear hn0
  simp only [push_cast,seval,reduceEqDiff]
  repeat' (first|(((first|apply condU_s|apply gdU_t|apply gdU_f)<;>intro _h)<;>(simp only [push_cast,seval,reduceEqDiff,_h,hasPrefix_neg,trimPrefix_neg,hl0];try (have _g:=_h;simp at _g)))|((first|refine c_call (by exact (c_cutPrefix W0 s [45])) ?_|refine c_call (by exact c_cutN W0 s hb) ?_|refine c_call (by exact c_digits W0 (nWhole s)) ?_|refine c_call (by exact c_digits W0 (nFrac s)) ?_|refine c_call (by exact c_nzero W0 s) ?_);simp only [push_cast,seval,reduceEqDiff,hasPrefix_neg,trimPrefix_neg,hl0])|intro _)
  all_goals (first|(refine finW_ret ?_;simp [get,numV]<;>(intros;omega);done)|(refine finW_rets ?_;simp [push_cast,get,numV];done)|skip)
 ·have hz:headZ (nWhole s)=((c.toNat:Int) == 48):=by simp [headZ,hW]
  rw [hz] at hS
  subst hS
  refine fn_retW (vs:=[numV s,.b _]) f147ok (by simp) (by simp) fun n0 hn0=>?_
  clear hn0
  simp only [push_cast,seval,reduceEqDiff]
  repeat' (first|(((first|apply condU_s|apply gdU_t|apply gdU_f)<;>intro _h)<;>(simp only [push_cast,seval,reduceEqDiff,_h,hasPrefix_neg,trimPrefix_neg,hW];try (have _g:=_h;simp at _g)))|((first|refine c_call (by exact (c_cutPrefix W0 s [45])) ?_|refine c_call (by exact c_cutN W0 s hb) ?_|refine c_call (by exact c_digits W0 (nWhole s)) ?_|refine c_call (by exact c_digits W0 (nFrac s)) ?_|refine c_call (by exact c_nzero W0 s) ?_);simp only [push_cast,seval,reduceEqDiff,hasPrefix_neg,trimPrefix_neg,hW])|intro _)
  all_goals (first|(refine finW_ret ?_;simp [get,numV, *]<;>(intros;omega);done)|(refine finW_rets ?_;simp [push_cast,get,numV, *];done)|skip)
theorem c_dValid (s:Bytes) (hb:s.length<=2^40):RetS Tryz.prog W0 108 [.s s] [] (.b (numB s)) []:=by
 have:=c_split W0 s hb
 unfold numV at this
 refine fn_retW (vs:=[.b (numB s)]) f108ok (by simp) (by simp) fun n0 hn0=>?_
 clear hn0
 simp only [push_cast,seval,reduceEqDiff]
 repeat' (first|(((first|apply condU_s|apply gdU_t|apply gdU_f)<;>intro _h)<;>(simp only [push_cast,seval,reduceEqDiff,_h];try (have _g:=_h;simp at _g)))|(refine c_call (by exact this) ?_;simp only [push_cast,seval,reduceEqDiff])|intro _)
 all_goals (first|(refine finW_ret ?_;simp [get]<;>(intros;omega);done)|(refine finW_rets ?_;simp [push_cast,get];done)|skip)
theorem c_value (s:Bytes) (h:digitsB s=true) (hl:s.length<=15):RetS Tryz.prog W0 238 [.s s] [] (.i .i64 (valN 0 s)) []:=by
 have ha:=c_atoi W0 (48::s) _ (by simp;omega) (atoi_val s h)
 have e1:1+s.length<=SLim:=by unfold SLim;omega
 refine fn_retW (vs:=[.i .i64 (valN 0 s)]) f238ok (by simp) (by simp) fun n0 hn0=>?_
 clear hn0
 simp only [push_cast,seval,reduceEqDiff,e1]
 repeat' (first|(((first|apply condU_s|apply gdU_t|apply gdU_f)<;>intro _h)<;>(simp only [push_cast,seval,reduceEqDiff,_h,e1];try (have _g:=_h;simp at _g)))|(refine c_call (by exact ha) ?_;simp only [push_cast,seval,reduceEqDiff,e1])|intro _)
 all_goals (first|(refine finW_ret ?_;simp [get]<;>(intros;omega);done)|(refine finW_rets ?_;simp [push_cast,get];done)|skip)
theorem c_opD (s:Bytes) (op:Int) (hb:s.length<=2^40):RetS Tryz.prog W0 207 [.s s,.i .i64 op] [] (.tup [.i .i64 (opV s op).1,.i .i64 (opV s op).2]) []:=by
 have hsp:=c_split W0 s hb
 have htr:=c_trimR W0 (nFrac s) [48] (by decide) (by decide)
 unfold numV at hsp
 rw [show Lib.trimRightS (nFrac s) [48]=trimZ (nFrac s) from rfl] at htr
 by_cases hN:numB s=true
 ·obtain ⟨hd1,hd2,hl1,hl2⟩:=numB_parts hN
  have hl3:=trimZ_le (nFrac s)
  have v1:=c_value W0 (nWhole s) hd1 hl1
  have v2:=c_value W0 (nFrac s) hd2 (by omega)
  have v3:=c_value W0 (trimZ (nFrac s)) (digits_trimZ hd2) (by omega)
  generalize hS:opV s op=S
  unfold opV at hS
  refine fn_retW (vs:=[.i .i64 S.1,.i .i64 S.2]) f207ok (by simp) (by simp) fun n0 hn0=>?_
  clear hn0
  simp only [push_cast,seval,reduceEqDiff,hN]
  repeat' (first|(((first|apply condU_s|apply gdU_t|apply gdU_f)<;>intro _h)<;>(simp only [push_cast,seval,reduceEqDiff,_h,hN];try (have _g:=_h;simp at _g)))|((first|refine c_call (by exact hsp) ?_|refine c_call (by exact htr) ?_|refine c_call (by exact v1) ?_|refine c_call (by exact v2) ?_|refine c_call (by exact v3) ?_);simp only [push_cast,seval,reduceEqDiff,hN])|intro _)
  all_goals subst hS
  all_goals (first|(refine finW_ret ?_;simp [get, *]<;>(intros;omega);done)|(refine finW_rets ?_;simp [push_cast,get, *];done)|skip)
 ·generalize hS:opV s op=S
  unfold opV at hS
  rw [if_neg hN] at hS
  subst hS
  rw [Bool.not_eq_true] at hN
  refine fn_retW (vs:=[.i .i64 0,.i .i64 1]) f207ok (by simp) (by simp) fun n0 hn0=>?_
  clear hn0
  simp only [push_cast,seval,reduceEqDiff,hN]
  repeat' (first|(((first|apply condU_s|apply gdU_t|apply gdU_f)<;>intro _h)<;>(simp only [push_cast,seval,reduceEqDiff,_h,hN];try (have _g:=_h;simp at _g)))|((first|refine c_call (by exact hsp) ?_|refine c_call (by exact htr) ?_);simp only [push_cast,seval,reduceEqDiff,hN])|intro _)
  all_goals (first|(refine finW_ret ?_;simp [get, *]<;>(intros;omega);done)|(refine finW_rets ?_;simp [push_cast,get, *];done)|skip)

end Go.Ir
namespace Go.Ir
open Go.Proofs
variable {P : Program} {W0 : World} {nt n : Nat} {Q : Exit → St → Prop} {env : Env} {σ : Sto}
def f165_12:IC:=.seq (.ops [o1 9 (.msl false 3 1 [(ci 2),(ci 3),(ci 4),(ci 5),(ci 6),(ci 10),(ci 20),(ci 25),(ci 50),(ci 100)]),m1 10 1,o1 11 (.call 191 [.t 9,.t 10]),m1 4 11] [4] []) .ret
def f165_20:IC:=.seq (.ops [m1 15 1,o1 16 (.bin .eql (.t 15) (ci 10)),m1 17 16,⟨some 18,.mv (.t 1),some (17,false),[]⟩,⟨some 19,.bin .eql (.t 18) (ci 100),some (17,false),[]⟩,o1 20 (.pick (.t 17) (.c (.b true)) (.t 19)),m1 4 20] [4] []) .ret
def f165_14:IC:=.seq (.seq (.ops [o1 13 (.bin .eql (.t 5) (ci 5)),m1 12 13] [1,5,12] []) (.cond (.t 12) .skip (.ops [o1 14 (.bin .eql (.t 5) (ci 6)),m1 12 14] [1,12] []))) (.cond (.t 12) f165_20 .skip)
def f165_5:IC:=.block 0 (.seq (.seq (.ops [o1 7 (.bin .eql (.t 5) (ci 1)),m1 6 7] [1,5,6] []) (.cond (.t 6) .skip (.ops [o1 8 (.bin .eql (.t 5) (ci 2)),m1 6 8] [1,5,6] []))) (.cond (.t 6) f165_12 f165_14))
def f165_2:IC:=.seq (.seq (.ops [m1 5 0] [1,5] []) f165_5) (.seq (.ops [o1 4 (.mv (.c (.b false)))] [4] []) .ret)
def f165_0:IC:=.seq (.ops [o1 4 (.mv (.c (.b false)))] [0,1] []) f165_2
@[push_cast]def f165R:List R:=[.t 4]
@[push_cast]def f165e:=aWv f165_12.eq_1<|aWv f165_20.eq_1<|aWv f165_14.eq_1<|aWv f165_5.eq_1<|aWv f165_2.eq_1<|aWu f165_0.eq_1
theorem f165ok:okFn Tryz.prog 165 21 f165_0 f165R=true:=by kernel_rfl
def f166_2:IC:=.seq (.seq (.ops [m1 3 0,o1 4 (.bin .eql (.t 3) (ci 3)),m1 5 4,⟨some 6,.mv (.t 0),some (5,false),[]⟩,⟨some 7,.bin .eql (.t 6) (ci 4),some (5,false),[]⟩,o1 8 (.pick (.t 5) (.c (.b true)) (.t 7))] [8] []) (.cond (.t 8) (.seq (.ops [o1 2 (.mv (ci 6))] [2] []) .ret) .skip)) (.seq (.ops [o1 2 (.mv (ci 100))] [2] []) .ret)
def f166_0:IC:=.seq (.ops [o1 2 (.mv (ci 0))] [0] []) f166_2
@[push_cast]def f166R:List R:=[.t 2]
@[push_cast]def f166e:=aWv f166_2.eq_1<|aWu f166_0.eq_1
theorem f166ok:okFn Tryz.prog 166 9 f166_0 f166R=true:=by kernel_rfl
def f138_21:IC:=.seq (.ops [o1 45 (.faddr (.t 4) 0),o1 46 (.load (.t 45) 1 false),o1 47 (.bin .lss (.t 46) (ci 0)),m1 48 47,⟨some 49,.faddr (.t 4) 0,some (48,false),[]⟩,⟨some 50,.load (.t 49) 1 false,some (48,false),[]⟩,⟨some 51,.faddr (.t 4) 1,some (48,false),[]⟩,⟨some 52,.load (.t 51) 1 false,some (48,false),[]⟩,⟨some 53,.bin .gtr (.t 50) (.t 52),some (48,false),[]⟩,o1 54 (.pick (.t 48) (.c (.b true)) (.t 53)),m1 55 54,⟨some 56,.faddr (.t 4) 1,some (55,false),[]⟩,⟨some 57,.load (.t 56) 1 false,some (55,false),[]⟩,⟨some 58,.faddr (.t 1) 0,some (55,false),[]⟩,⟨some 59,.load (.t 58) 1 false,some (55,false),[]⟩,⟨some 60,.call 166 [.t 59],some (55,false),[]⟩,⟨some 61,.bin .gtr (.t 57) (.t 60),some (55,false),[]⟩,o1 62 (.pick (.t 55) (.c (.b true)) (.t 61))] [1,39,40,41,62] [[0,1],[1,2],[2,3],[3,4],[3,5],[4,5],[3,6],[3,7],[6,7],[3,8],[5,8],[7,8],[3,9],[8,9],[9,10],[10,11],[10,12],[11,12],[10,13],[10,14],[13,14],[10,15],[14,15],[10,16],[12,16],[15,16],[10,17],[16,17]]) (.cond (.t 62) (.seq (.ops [o1 2 (.mv (.c (.b false)))] [2] []) .ret) .skip)
def f138_17:IC:=.seq (.block 1 (.seq (.ops [o1 43 (.iaddr (.t 39) (.t 41) 68 2),o1 44 (.load (.t 43) 2 true),o1 4 (.alloc (.agg [(.i .i64 0),(.i .i64 0)])),o0 (.store (.t 4) (.t 44) 2)] [1,4,39,40,41] []) f138_21)) (.ops [o1 63 (.bin .add (.t 41) (ci 1)),m1 41 63] [1,39,40,41] [])
def f138_13:IC:=.seq (.ops [o1 42 (.bin .lss (.t 41) (.t 40))] [1,39,40,41,42] []) (.seq (.cond (.t 42) .skip (.exit 0)) f138_17)
def f138_8:IC:=.seq (.seq (.ops [o1 38 (.faddr (.t 1) 3),o1 39 (.load (.t 38) 1 false),o1 40 (.lenL (.t 39)),o1 41 (.mv (ci 0))] [1,39,40,41] []) (.block 0 (.loop f138_13))) (.seq (.ops [o1 2 (.mv (.c (.b true)))] [2] []) .ret)
def f138_2:IC:=.seq (.seq (.ops [o1 5 (.faddr (.t 1) 0),o1 6 (.load (.t 5) 1 false),o1 7 (.bin .lss (.t 6) (ci 1)),m1 8 7,⟨some 9,.faddr (.t 1) 0,some (8,false),[]⟩,⟨some 10,.load (.t 9) 1 false,some (8,false),[]⟩,⟨some 11,.bin .gtr (.t 10) (ci 6),some (8,false),[]⟩,o1 12 (.pick (.t 8) (.c (.b true)) (.t 11)),m1 13 12,⟨some 14,.faddr (.t 1) 1,some (13,false),[]⟩,⟨some 15,.load (.t 14) 1 false,some (13,false),[]⟩,⟨some 16,.bin .neq (.t 15) (ci 0),some (13,false),[]⟩,⟨some 17,.mv (.t 16),some (13,false),[]⟩,⟨some 18,.faddr (.t 1) 0,some (17,true),[]⟩,⟨some 19,.load (.t 18) 1 false,some (17,true),[]⟩,⟨some 20,.faddr (.t 1) 1,some (17,true),[]⟩,⟨some 21,.load (.t 20) 1 false,some (17,true),[]⟩,⟨some 22,.call 165 [.t 19,.t 21],some (17,true),[]⟩,⟨some 23,.not (.t 22),some (17,true),[]⟩,⟨some 24,.pick (.t 17) (.t 23) (.c (.b false)),some (13,false),[]⟩,o1 25 (.pick (.t 13) (.c (.b true)) (.t 24)),m1 26 25,⟨some 27,.faddr (.t 1) 3,some (26,false),[]⟩,⟨some 28,.load (.t 27) 1 false,some (26,false),[]⟩,⟨some 29,.lenL (.t 28),some (26,false),[]⟩,⟨some 30,.bin .lss (.t 29) (ci 1),some (26,false),[]⟩,o1 31 (.pick (.t 26) (.c (.b true)) (.t 30)),m1 32 31,⟨some 33,.faddr (.t 1) 3,some (32,false),[]⟩,⟨some 34,.load (.t 33) 1 false,some (32,false),[]⟩,⟨some 35,.lenL (.t 34),some (32,false),[]⟩,⟨some 36,.bin .gtr (.t 35) (ci 4),some (32,false),[]⟩,o1 37 (.pick (.t 32) (.c (.b true)) (.t 36))] [1,37] []) (.cond (.t 37) (.seq (.ops [o1 2 (.mv (.c (.b false)))] [2] []) .ret) .skip)) f138_8
def f138_0:IC:=.seq (.ops [o1 1 (.box (.t 0)),o1 2 (.mv (.c (.b false)))] [1] []) f138_2
@[push_cast]def f138R:List R:=[.t 2]
@[push_cast]def f138e:=aWv f138_21.eq_1<|aWv f138_17.eq_1<|aWv f138_13.eq_1<|aWv f138_8.eq_1<|aWv f138_2.eq_1<|aWu f138_0.eq_1
theorem f138ok:okFn Tryz.prog 138 64 f138_0 f138R=true:=by kernel_rfl
def f137_2:IC:=.seq (.ops [o1 3 (.load (.t 1) 4 true),o1 4 (.call 138 [.t 3]),o1 5 (.not (.t 4)),m1 2 5] [2] []) .ret
def f137_0:IC:=.seq (.ops [o1 1 (.box (.t 0)),o1 2 (.mv (.c (.b false)))] [1] []) f137_2
@[push_cast]def f137R:List R:=[.t 2]
@[push_cast]def f137e:=aWv f137_2.eq_1<|aWu f137_0.eq_1
theorem f137ok:okFn Tryz.prog 137 6 f137_0 f137R=true:=by kernel_rfl
def f94_23:IC:=.ops [m1 19 3,m1 20 5,o1 21 (.lenL (.t 20)),o1 22 (.bin .add (.t 19) (.t 21)),m1 3 22] [0,3,6,7,8] []
def f94_17:IC:=.seq (.seq (.ops [m1 12 5,o1 13 (.lenL (.t 12)),o1 14 (.bin .eql (.t 13) (ci 0)),m1 15 14,⟨some 16,.mv (.t 5),some (15,false),[]⟩,⟨some 17,.calls 136 [.t 16,(.c (.fn 137 [] []))],some (15,false),[]⟩,o1 18 (.pick (.t 15) (.c (.b true)) (.t 17))] [0,3,5,6,7,8,18] []) (.cond (.t 18) (.seq (.ops [o1 2 (.mv (.c (.b false)))] [2] []) .ret) .skip)) f94_23
def f94_13:IC:=.seq (.block 1 (.seq (.ops [o1 10 (.iaddr (.t 6) (.t 8) 72 1),o1 11 (.load (.t 10) 1 false),m1 5 11] [0,3,5,6,7,8] []) f94_17)) (.ops [o1 23 (.bin .add (.t 8) (ci 1)),m1 8 23] [0,3,6,7,8] [])
def f94_9:IC:=.seq (.ops [o1 9 (.bin .lss (.t 8) (.t 7))] [0,3,6,7,8,9] []) (.seq (.cond (.t 9) .skip (.exit 0)) f94_13)
def f94_25:IC:=.seq (.ops [m1 24 0,o1 25 (.lenL (.t 24)),o1 26 (.bin .gtr (.t 25) (ci 0)),m1 27 26,⟨some 28,.mv (.t 3),some (27,true),[]⟩,⟨some 29,.bin .leq (.t 28) (ci 6),some (27,true),[]⟩,o1 30 (.pick (.t 27) (.t 29) (.c (.b false))),m1 2 30] [2] []) .ret
def f94_4:IC:=.seq (.seq (.ops [m1 6 0,o1 7 (.lenL (.t 6)),o1 8 (.mv (ci 0))] [0,3,6,7,8] []) (.block 0 (.loop f94_9))) f94_25
def f94_0:IC:=.seq (.ops [o1 2 (.mv (.c (.b false)))] [0] []) (.seq (.ops [o1 3 (.mv (ci 0))] [0,3] []) f94_4)
@[push_cast]def f94R:List R:=[.t 2]
@[push_cast]def f94e:=aWv f94_23.eq_1<|aWv f94_17.eq_1<|aWv f94_13.eq_1<|aWv f94_9.eq_1<|aWv f94_25.eq_1<|aWv f94_4.eq_1<|aWu f94_0.eq_1
theorem f94ok:okFn Tryz.prog 94 31 f94_0 f94R=true:=by kernel_rfl
def f240_2:IC:=.seq (.ops [o1 4 (.load (.t 1) 1 false),o1 5 (.faddr (.t 2) 0),o1 6 (.load (.t 5) 1 false),o1 7 (.bin .geq (.t 4) (.t 6)),m1 8 7,⟨some 9,.load (.t 1) 1 false,some (8,true),[]⟩,⟨some 10,.faddr (.t 2) 1,some (8,true),[]⟩,⟨some 11,.load (.t 10) 1 false,some (8,true),[]⟩,⟨some 12,.bin .leq (.t 9) (.t 11),some (8,true),[]⟩,o1 13 (.pick (.t 8) (.t 12) (.c (.b false))),m1 3 13] [3] []) .ret
def f240_0:IC:=.seq (.ops [o1 2 (.box (.t 0)),o1 3 (.mv (.c (.b false)))] [1,2] []) f240_2
@[push_cast]def f240R:List R:=[.t 3]
@[push_cast]def f240e:=aWv f240_2.eq_1<|aWu f240_0.eq_1
theorem f240ok:okFn Tryz.prog 240 14 f240_0 f240R=true:=by kernel_rfl
def f208_2:IC:=.seq (.ops [m1 5 0,o1 6 (.mkfn 240 [] [.t 3]),o1 7 (.calls 239 [.t 5,.t 6]),m1 4 7] [4] []) .ret
def f208_0:IC:=.seq (.ops [o1 3 (.box (.t 1)),o1 4 (.mv (.c (.b false)))] [0,3] []) f208_2
@[push_cast]def f208R:List R:=[.t 4]
@[push_cast]def f208e:=aWv f208_2.eq_1<|aWu f208_0.eq_1
theorem f208ok:okFn Tryz.prog 208 8 f208_0 f208R=true:=by kernel_rfl
def f176_7:IC:=.cond (.t 15) (.seq (.ops [o1 16 (.faddr (.t 2) 2),o1 17 (.load (.t 16) 1 false),m1 4 17] [4] []) .ret) .skip
def f176_14:IC:=.ops [m1 21 5,o1 22 (.faddr (.t 2) 1),o1 23 (.load (.t 22) 1 false),o1 24 (.bin .rem (.t 21) (.t 23)),m1 5 24] [2,5] []
def f176_15:IC:=.seq (.ops [o1 25 (.faddr (.t 2) 3),o1 26 (.load (.t 25) 1 false),m1 27 5,o1 28 (.call 208 [.t 26,.t 27]),o1 29 (.faddr (.t 2) 2),o1 30 (.load (.t 29) 1 false),o1 31 (.eqb true (.t 28) (.t 30)),m1 4 31] [4] [[0,1],[1,3],[2,3],[4,5],[3,6],[5,6],[6,7]]) .ret
def f176_10:IC:=.seq (.seq (.ops [o1 18 (.faddr (.t 2) 1),o1 19 (.load (.t 18) 1 false),o1 20 (.bin .neq (.t 19) (ci 0))] [2,5,20] []) (.cond (.t 20) f176_14 .skip)) f176_15
def f176_2:IC:=.seq (.ops [m1 8 1,o1 9 (.faddr (.t 2) 0),o1 10 (.load (.t 9) 1 false),o1 11 (.call 207 [.t 8,.t 10]),m1 7 11,o1 12 (.ext (.t 7) 0),o1 13 (.ext (.t 7) 1),m1 5 12,m1 6 13] [2,5,6] []) (.seq (.seq (.ops [m1 14 6,o1 15 (.bin .neq (.t 14) (ci 0))] [2,5,15] []) f176_7) f176_10)
def f176_0:IC:=.seq (.ops [o1 2 (.box (.t 0)),o1 4 (.mv (.c (.b false)))] [1,2] []) f176_2
@[push_cast]def f176R:List R:=[.t 4]
@[push_cast]def f176e:=aWv f176_7.eq_1<|aWv f176_14.eq_1<|aWv f176_15.eq_1<|aWv f176_10.eq_1<|aWv f176_2.eq_1<|aWu f176_0.eq_1
theorem f176ok:okFn Tryz.prog 176 32 f176_0 f176R=true:=by kernel_rfl
def f175_2:IC:=.seq (.ops [o1 4 (.load (.t 2) 4 true),o1 5 (.load (.t 1) 1 false),o1 6 (.call 176 [.t 4,.t 5]),o1 7 (.not (.t 6)),m1 3 7] [3] []) .ret
def f175_0:IC:=.seq (.ops [o1 2 (.box (.t 0)),o1 3 (.mv (.c (.b false)))] [1,2] []) f175_2
@[push_cast]def f175R:List R:=[.t 3]
@[push_cast]def f175e:=aWv f175_2.eq_1<|aWu f175_0.eq_1
theorem f175ok:okFn Tryz.prog 175 8 f175_0 f175R=true:=by kernel_rfl
def f174_2:IC:=.seq (.ops [m1 4 0,o1 5 (.mkfn 175 [] [.t 1]),o1 6 (.calls 136 [.t 4,.t 5]),o1 7 (.not (.t 6)),m1 3 7] [3] []) .ret
def f174_0:IC:=.seq (.ops [o1 3 (.mv (.c (.b false)))] [0,1] []) f174_2
@[push_cast]def f174R:List R:=[.t 3]
@[push_cast]def f174e:=aWv f174_2.eq_1<|aWu f174_0.eq_1
theorem f174ok:okFn Tryz.prog 174 8 f174_0 f174R=true:=by kernel_rfl
def f148_5:IC:=.cond (.t 13) (.seq (.ops [o1 4 (.mv (.c (.b false))),o1 5 (.mv (ci 1))] [4,5] []) .ret) .skip
def f148_8:IC:=.seq (.ops [m1 14 0,o1 15 (.mkfn 174 [] [.t 3]),o1 16 (.calls 173 [.t 14,.t 15]),m1 4 16,o1 5 (.mv (ci 0))] [4,5] []) .ret
def f148_2:IC:=.seq (.seq (.ops [m1 6 0,o1 7 (.call 94 [.t 6]),o1 8 (.not (.t 7)),m1 9 8,⟨some 10,.load (.t 3) 1 false,some (9,false),[]⟩,⟨some 11,.call 108 [.t 10],some (9,false),[]⟩,⟨some 12,.not (.t 11),some (9,false),[]⟩,o1 13 (.pick (.t 9) (.c (.b true)) (.t 12))] [0,3,13] []) f148_5) f148_8
def f148_0:IC:=.seq (.ops [o1 3 (.box (.t 1)),o1 4 (.mv (.c (.b false))),o1 5 (.mv (ci 0))] [0,3] []) f148_2
@[push_cast]def f148R:List R:=[.t 4,.t 5]
@[push_cast]def f148e:=aWv f148_5.eq_1<|aWv f148_8.eq_1<|aWv f148_2.eq_1<|aWu f148_0.eq_1
theorem f148ok:okFn Tryz.prog 148 17 f148_0 f148R=true:=by kernel_rfl
def f135_2:IC:=.seq (.ops [o1 1 (.build [(.s []),(.s []),(.s []),(.s []),(.s []),(.s [])] [(0,1,(.c (.s [122,101,114,111]))),(1,1,(.c (.s [111,110,101]))),(2,1,(.c (.s [116,119,111]))),(3,1,(.c (.s [102,101,119]))),(4,1,(.c (.s [109,97,110,121]))),(5,1,(.c (.s [111,116,104,101,114])))]),o0 (.store (.t 0) (.t 1) 6)] [0] []) .ret
def f135_0:IC:=.seq (.ops [o1 0 (.alloc (.agg [(.s []),(.s []),(.s []),(.s []),(.s []),(.s [])]))] [0] []) f135_2
@[push_cast]def f135R:List R:=[.c 0 6 true]
@[push_cast]def f135e:=aWv f135_2.eq_1<|aWu f135_0.eq_1
theorem f135ok:okFn Tryz.prog 135 2 f135_0 f135R=true:=by kernel_rfl
def f93_2:IC:=.seq (.ops [o1 4 (.call 135 []),o1 3 (.alloc (.agg [(.s []),(.s []),(.s []),(.s []),(.s []),(.s [])])),o0 (.store (.t 3) (.t 4) 6)] [0,3] []) (.seq (.ops [o1 5 (.frz (.t 3) 6),m1 6 0,o1 7 (.call 69 [.t 5,.t 6]),m1 2 7] [2] []) .ret)
def f93_0:IC:=.seq (.ops [o1 2 (.mv (.c (.b false)))] [0] []) f93_2
@[push_cast]def f93R:List R:=[.t 2]
@[push_cast]def f93e:=aWv f93_2.eq_1<|aWu f93_0.eq_1
theorem f93ok:okFn Tryz.prog 93 8 f93_0 f93R=true:=by kernel_rfl
def f96_2:IC:=.seq (.ops [o1 4 (.faddr (.t 2) 0),o1 5 (.load (.t 4) 1 false),o1 6 (.faddr (.t 1) 0),o1 7 (.load (.t 6) 1 false),o1 8 (.bin .eql (.t 5) (.t 7)),m1 3 8] [3] []) .ret
def f96_0:IC:=.seq (.ops [o1 2 (.box (.t 0)),o1 3 (.mv (.c (.b false)))] [1,2] []) f96_2
@[push_cast]def f96R:List R:=[.t 3]
@[push_cast]def f96e:=aWv f96_2.eq_1<|aWu f96_0.eq_1
theorem f96ok:okFn Tryz.prog 96 9 f96_0 f96R=true:=by kernel_rfl
def f47_15:IC:=.seq (.ops [o1 12 (.faddr (.t 4) 0),o1 13 (.load (.t 12) 1 false),o1 14 (.call 93 [.t 13]),o1 15 (.not (.t 14)),m1 16 15,⟨some 17,.faddr (.t 4) 0,some (16,false),[]⟩,⟨some 18,.load (.t 17) 1 false,some (16,false),[]⟩,⟨some 19,.bin .eql (.t 18) (.c (.s [111,116,104,101,114])),some (16,false),[]⟩,o1 20 (.pick (.t 16) (.c (.b true)) (.t 19)),m1 21 20,⟨some 22,.faddr (.t 4) 1,some (21,false),[]⟩,⟨some 23,.load (.t 22) 1 false,some (21,false),[]⟩,⟨some 24,.call 94 [.t 23],some (21,false),[]⟩,⟨some 25,.not (.t 24),some (21,false),[]⟩,o1 26 (.pick (.t 21) (.c (.b true)) (.t 25)),m1 27 26,⟨some 28,.mv (.t 0),some (27,false),[]⟩,⟨some 29,.mv (.t 3),some (27,false),[]⟩,⟨some 30,.slL (.t 28) none (some (.t 29)) 2,some (27,false),[]⟩,⟨some 31,.mkfn 96 [] [.t 4],some (27,false),[]⟩,⟨some 32,.calls 95 [.t 30,.t 31],some (27,false),[]⟩,o1 33 (.pick (.t 27) (.c (.b true)) (.t 32))] [0,5,6,7,33] []) (.cond (.t 33) (.seq (.ops [o1 2 (.mv (.c (.b false)))] [2] []) .ret) .skip)
def f47_11:IC:=.seq (.block 1 (.seq (.ops [m1 9 7,o1 10 (.iaddr (.t 5) (.t 7) 76 2),o1 11 (.load (.t 10) 2 true),o1 4 (.alloc (.agg [(.s []),.nil])),m1 3 9,o0 (.store (.t 4) (.t 11) 2)] [0,3,4,5,6,7] []) f47_15)) (.ops [o1 34 (.bin .add (.t 7) (ci 1)),m1 7 34] [0,5,6,7] [])
def f47_7:IC:=.seq (.ops [o1 8 (.bin .lss (.t 7) (.t 6))] [0,5,6,7,8] []) (.seq (.cond (.t 8) .skip (.exit 0)) f47_11)
def f47_2:IC:=.seq (.seq (.ops [m1 5 0,o1 6 (.lenL (.t 5)),o1 7 (.mv (ci 0))] [0,5,6,7] []) (.block 0 (.loop f47_7))) (.seq (.ops [o1 2 (.mv (.c (.b true)))] [2] []) .ret)
def f47_0:IC:=.seq (.ops [o1 2 (.mv (.c (.b false)))] [0] []) f47_2
@[push_cast]def f47R:List R:=[.t 2]
@[push_cast]def f47e:=aWv f47_15.eq_1<|aWv f47_11.eq_1<|aWv f47_7.eq_1<|aWv f47_2.eq_1<|aWu f47_0.eq_1
theorem f47ok:okFn Tryz.prog 47 35 f47_0 f47R=true:=by kernel_rfl
def f109_5:IC:=.cond (.t 15) (.seq (.ops [o1 4 (.mv (.c (.s []))),o1 5 (.mv (ci 1))] [4,5] []) .ret) .skip
def f109_15:IC:=.cond (.t 28) (.seq (.ops [o1 4 (.mv (.c (.s []))),o1 5 (.mv (ci 1))] [4,5] []) .ret) .skip
def f109_42:IC:=.seq (.ops [o1 48 (.faddr (.t 10) 0),o1 49 (.load (.t 48) 1 false),m1 4 49,o1 5 (.mv (ci 0))] [4,5] []) .ret
def f109_36:IC:=.cond (.t 42) (.seq (.ops [m1 45 12,o1 4 (.mv (.c (.s []))),m1 5 45] [4,5] []) .ret) (.seq (.ops [m1 47 11,m1 46 47] [1,10,29,30,31,46] []) (.cond (.t 46) f109_42 .skip))
def f109_33:IC:=.block 2 (.seq (.ops [m1 43 12,o1 44 (.bin .neq (.t 43) (ci 0)),m1 42 44] [1,10,11,12,29,30,31,42] []) f109_36)
def f109_31:IC:=.seq (.ops [o1 36 (.faddr (.t 10) 1),o1 37 (.load (.t 36) 1 false),m1 38 1,o1 39 (.call 148 [.t 37,.t 38]),m1 35 39,o1 40 (.ext (.t 35) 0),o1 41 (.ext (.t 35) 1),m1 11 40,m1 12 41] [1,10,11,12,29,30,31] []) f109_33
def f109_27:IC:=.seq (.block 1 (.seq (.ops [o1 33 (.iaddr (.t 29) (.t 31) 76 2),o1 34 (.load (.t 33) 2 true),o1 10 (.alloc (.agg [(.s []),.nil])),o0 (.store (.t 10) (.t 34) 2)] [1,10,29,30,31] []) f109_31)) (.ops [o1 50 (.bin .add (.t 31) (ci 1)),m1 31 50] [1,29,30,31] [])
def f109_23:IC:=.seq (.ops [o1 32 (.bin .lss (.t 31) (.t 30))] [1,29,30,31,32] []) (.seq (.cond (.t 32) .skip (.exit 0)) f109_27)
def f109_18:IC:=.seq (.seq (.ops [m1 29 0,o1 30 (.lenL (.t 29)),o1 31 (.mv (ci 0))] [1,29,30,31] []) (.block 0 (.loop f109_23))) (.seq (.ops [o1 4 (.mv (.c (.s [111,116,104,101,114]))),o1 5 (.mv (ci 0))] [4,5] []) .ret)
def f109_10:IC:=.seq (.seq (.ops [m1 22 6,m1 23 1,o1 24 (.call 148 [.t 22,.t 23]),m1 21 24,o1 25 (.ext (.t 21) 0),o1 26 (.ext (.t 21) 1),m1 7 25,m1 8 26] [0,1,8] []) (.seq (.ops [m1 27 8,o1 28 (.bin .neq (.t 27) (ci 0))] [0,1,28] []) f109_15)) f109_18
def f109_8:IC:=.seq (.ops [o1 16 (.build [(.i .i64 0),(.i .i64 0)] []),o1 17 (.msl false 68 2 [.t 16]),o1 18 (.build [(.i .i64 0),(.i .i64 0),(.b false),.nil] [(0,1,(ci 2)),(2,1,(.c (.b true))),(3,1,(.t 17))]),o1 19 (.msl false 71 4 [.t 18]),o1 20 (.msl false 72 1 [.t 19]),m1 6 20] [0,1,6] []) f109_10
def f109_2:IC:=.seq (.seq (.ops [m1 13 0,o1 14 (.call 47 [.t 13]),o1 15 (.not (.t 14))] [0,1,15] []) f109_5) f109_8
def f109_0:IC:=.seq (.ops [o1 4 (.mv (.c (.s []))),o1 5 (.mv (ci 0))] [0,1] []) f109_2
@[push_cast]def f109R:List R:=[.t 4,.t 5]
@[push_cast]def f109e:=aWv f109_5.eq_1<|aWv f109_15.eq_1<|aWv f109_42.eq_1<|aWv f109_36.eq_1<|aWv f109_33.eq_1<|aWv f109_31.eq_1<|aWv f109_27.eq_1<|aWv f109_23.eq_1<|aWv f109_18.eq_1<|aWv f109_10.eq_1<|aWv f109_8.eq_1<|aWv f109_2.eq_1<|aWu f109_0.eq_1
theorem f109ok:okFn Tryz.prog 109 51 f109_0 f109R=true:=by kernel_rfl
end Go.Ir
namespace Go.Ir
open Go.Proofs
variable (W0 : World)
def modsL:List Int:=[2,3,4,5,6,10,20,25,50,100]
theorem idxI_has (l:List Int) (v:Int):decide (idxI (fun x=>v == x) l>=0)=l.contains v:=by
 rw [idxI_ge,List.contains_eq_any_beq]
theorem ixInt:okFn Tryz.prog 222 19 (gIX_0 3) gIXR=true:=by kernel_rfl
theorem coInt:okFn Tryz.prog 191 9 (gCO_0 222) gCOR=true:=by kernel_rfl
theorem c_containsI (l:List Int) (v:Int) (hl:l.length<2^62):RetS Tryz.prog W0 191 [.sl (l.map (V.i .i64)),.i .i64 v] [] (.b (l.contains v)) []:=by
 rw [<-idxI_has]
 exact containsS_ret W0 coInt _ _ _ (indexI_ret W0 ixInt l v hl)
def permB (op mod:Int):Bool:=if op == 1||op == 2 then modsL.contains mod else if op == 5||op == 6 then mod == 10||mod == 100 else false
theorem c_permitted (op mod:Int):RetS Tryz.prog W0 165 [.i .i64 op,.i .i64 mod] [] (.b (permB op mod)) []:=by
 have hc:=c_containsI W0 modsL mod (by decide)
 unfold modsL at hc
 simp only [List.map_cons,List.map_nil] at hc
 generalize hS:permB op mod=S
 unfold permB modsL at hS
 refine fn_retW (vs:=[.b S]) f165ok (by simp) (by simp) fun n0 hn0=>?_
 clear hn0
 simp only [push_cast,seval,reduceEqDiff]
 repeat' (first|(((first|apply condU_s|apply gdU_t|apply gdU_f)<;>intro _h)<;>(simp only [push_cast,seval,reduceEqDiff,_h];try (have _g:=_h;simp at _g)))|(refine c_call (by exact hc) ?_;simp only [push_cast,seval,reduceEqDiff])|intro _)
 all_goals subst hS
 all_goals (first|(refine finW_ret ?_;simp [get, *]<;>(intros;omega);done)|(refine finW_rets ?_;simp [push_cast,get, *];done)|skip)
def bndI (op:Int):Int:=if op == 3||op == 4 then 6 else 100
theorem c_greatest (op:Int):RetS Tryz.prog W0 166 [.i .i64 op] [] (.i .i64 (bndI op)) []:=by
 generalize hS:bndI op=S
 unfold bndI at hS
 refine fn_retW (vs:=[.i .i64 S]) f166ok (by simp) (by simp) fun n0 hn0=>?_
 clear hn0
 simp only [push_cast,seval,reduceEqDiff]
 repeat' (first|(((first|apply condU_s|apply gdU_t|apply gdU_f)<;>intro _h)<;>(simp only [push_cast,seval,reduceEqDiff,_h];try (have _g:=_h;simp at _g)))|intro _)
 all_goals subst hS
 all_goals (first|(refine finW_ret ?_;simp [get, *]<;>(intros;omega);done)|(refine finW_rets ?_;simp [push_cast,get, *];done)|skip)
def spanB (op:Int) (s:Span):Bool:=!(decide (s.lo<0)||decide (s.lo>s.hi)||decide (s.hi>bndI op))
def properB (r:Rel):Bool:=!(decide (r.op<1)||decide (r.op>6)||(r.mod != 0&&!permB r.op r.mod)||decide ((r.spans.length:Int)<1)||decide ((r.spans.length:Int)>4))&&r.spans.all (spanB r.op)
theorem c_proper (r:Rel) (hb:r.spans.length<=2^30):RetS Tryz.prog W0 138 [r.enc] [] (.b (properB r)) []:=by
 generalize hS:properB r=S
 unfold properB at hS
 rw [Rel.enc_eq]
 refine fn_retW (vs:=[.b S]) f138ok (by simp) (by simp) fun n0 hn0=>?_
 clear hn0
 simp only [push_cast,seval,reduceEqDiff]
 repeat' (first|(((first|apply condU_s|apply gdU_t|apply gdU_f)<;>intro _h)<;>(simp only [push_cast,seval,reduceEqDiff,_h];try (have _g:=_h;simp at _g)))|(refine c_call (by exact c_permitted W0 _ _) ?_;simp only [push_cast,seval,reduceEqDiff])|intro _)
 all_goals (first|(refine finW_ret ?_;subst hS;simp [get, *];done)|skip)
 all_goals
  have hd:r.spans.all (spanB r.op)=S:=by subst hS;simp [*]
  clear hS
  refine aWP_loopW r.spans.length (Inv:=fun m st=>∃done rest n,r.spans=done++rest/\m=rest.length/\rest.all (spanB r.op)=S/\st=⟨[(1,.ref (n0,1) 0),(39,.sl (r.spans.map Span.enc)),(40,.i .i64 r.spans.length),(41,.i .i64 done.length)],[((n0,1),.box r.enc)],n⟩) ⟨_,StLe.refl,[],_,_,rfl,rfl,hd,rfl⟩ ?_
  clear hd
  rintro m _ ⟨done,rest,n,hz,rfl,hd,rfl⟩
  cases rest with
  | nil=>
   simp only [push_cast,seval,reduceEqDiff,hz]
   repeat' (first|(((first|apply condU_s|apply gdU_t|apply gdU_f)<;>intro _h)<;>(simp only [push_cast,seval,reduceEqDiff,_h];try (have _g:=_h;simp at _g)))|intro _)
   all_goals (first|(refine finW_ret ?_;simp [get,<-hd]<;>(intros;omega);done)|(refine finW_rets ?_;simp [push_cast,get,<-hd];done)|skip)
  | cons s rest=>
   have hbd:=zip_bd hz
   rw [List.all_cons,spanB] at hd
   simp only [push_cast,seval,reduceEqDiff,hz,wrap_zip s (done:=done) (by omega)]
   repeat' (first|(((first|apply condU_s|apply gdU_t|apply gdU_f)<;>intro _h)<;>(simp only [push_cast,seval,reduceEqDiff,_h,hz,wrap_zip s (done:=done) (by omega)];try (have _g:=_h;simp at _g)))|(refine c_call (by exact c_greatest W0 r.op) ?_;simp only [push_cast,seval,reduceEqDiff,hz,wrap_zip s (done:=done) (by omega)])|intro _)
   all_goals (first|(exact ⟨_,_,Nat.lt_succ_self _,StLe.drop1 (by simp [lk]) (Nat.le_refl _),done++[s],rest,_,by simp,rfl,by rw [<-hd];simp [*],rfl⟩)|skip)
   all_goals subst hd
   all_goals (first|(refine finW_ret ?_;simp [get, *]<;>(intros;omega);done)|(refine finW_rets ?_;simp [push_cast,get, *];done)|skip)
theorem c_condV1 (r:Rel) (hb:r.spans.length<=2^30):RetS Tryz.prog W0 137 [r.enc] [] (.b (!properB r)) []:=by
 have h:=c_proper W0 r hb
 rw [Rel.enc_eq] at *
 refine fn_retW (vs:=[.b (!properB r)]) f137ok (by simp) (by simp) fun n0 hn0=>?_
 clear hn0
 simp only [push_cast,seval,reduceEqDiff]
 repeat' (first|(((first|apply condU_s|apply gdU_t|apply gdU_f)<;>intro _h)<;>(simp only [push_cast,seval,reduceEqDiff,_h];try (have _g:=_h;simp at _g)))|(refine c_call (by exact h) ?_;simp only [push_cast,seval,reduceEqDiff])|intro _)
 all_goals (first|(refine finW_ret ?_;simp [get]<;>(intros;omega);done)|(refine finW_rets ?_;simp [push_cast,get];done)|skip)
theorem ixRel:okFn Tryz.prog 164 19 (gIF_0 71 4 true) gIFR=true:=by kernel_rfl
theorem coRel:okFn Tryz.prog 136 9 (gCF_0 164) gCFR=true:=by kernel_rfl
theorem anyRel (l:List Rel) (p:Rel->Bool) (g:FuncId) (caps:List V) (σ:Sto) (hg:∀r∈l,RetS Tryz.prog W0 g ([r.enc]++caps) σ (.b (p r)) σ) (hl:l.length<2^62) :
  RetS Tryz.prog W0 136 [.sl (l.map Rel.enc),.fn g [] caps] σ (.b (l.any p)) σ:=by
 rw [<-idxI_ge]
 exact containsFunc_ret W0 coRel _ _ _ _ (indexFunc_ret W0 ixRel Rel.enc l p g [] caps σ (fun x _=>elOk_agg rfl) (fun r hr=>hg r hr) hl)
def sumL (c:List (List Rel)):Int:=(c.map fun l=>(l.length:Int)).sum
theorem sumL_cons (l:List Rel) (c:List (List Rel)):sumL (l::c)=l.length+sumL c:=by simp [sumL]
def listB (l:List Rel):Bool:=!((l.length:Int) == 0||l.any fun r=>!properB r)
def condB (c:List (List Rel)):Bool:=c.all listB&&(decide ((c.length:Int)>0)&&decide (sumL c<=6))
theorem sumL_wt (c:List (List Rel)):0<=sumL c/\sumL c<=wtCond c:=by
 induction c with
 | nil=>simp [sumL,wtCond]
 | cons l c ih=>have:=len_wtRels l;rw [sumL_cons,wtCond];omega
theorem c_condV (c:List (List Rel)) (hb:wtCond c<=2^30):RetS Tryz.prog W0 94 [.sl (c.map relsV)] [] (.b (condB c)) []:=by
 generalize hS:condB c=S
 unfold condB at hS
 have hlen:=len_wtCond c
 have hsw:=sumL_wt c
 refine fn_retW (vs:=[.b S]) f94ok (by simp) (by simp) fun n0 hn0=>?_
 clear hn0
 simp only [push_cast,seval,reduceEqDiff]
 intros
 refine aWP_loopW c.length (Inv:=fun m st=>∃done rest n d,c=done++rest/\m=rest.length/\(rest.all listB&&(decide ((c.length:Int)>0)&&decide (d+sumL rest<=6)))=S/\0<=d/\d+sumL rest=sumL c/\st=⟨[(0,.sl (c.map relsV)),(3,.i .i64 d),(6,.sl (c.map relsV)),(7,.i .i64 c.length),(8,.i .i64 done.length)],[],n⟩) ⟨_,StLe.refl,[],_,_,0,rfl,rfl,by rw [Int.zero_add];exact hS,by omega,by omega,rfl⟩ ?_
 clear hS
 rintro m _ ⟨done,rest,n,d,hz,rfl,hd,hd0,hds,rfl⟩
 cases rest with
 | nil=>
  rw [show sumL []=0 from rfl,Int.add_zero] at hd
  simp only [push_cast,seval,reduceEqDiff,hz]
  rw [List.append_nil] at hz
  repeat' (first|(((first|apply condU_s|apply gdU_t|apply gdU_f)<;>intro _h)<;>(simp only [push_cast,seval,reduceEqDiff,_h];try (have _g:=_h;simp at _g)))|intro _)
  all_goals subst hd
  all_goals subst hz
  all_goals (first|(refine finW_ret ?_;simp [get, *]<;>(intros;omega);done)|(refine finW_rets ?_;simp [push_cast,get, *];done)|skip)
 | cons l rest=>
  have hbd:=zip_bd hz
  have hw:=wtCond_mem (l:=c) (r:=l) (by rw [hz];simp)
  have hll:=len_wtRels l
  rw [List.all_cons] at hd
  rw [sumL_cons] at hd hds
  have hsr:=sumL_wt rest
  have e1:IntKind.i64.wrap (d+(l.length:Int))=d+(l.length:Int):=wrap64 (by omega) (by omega)
  have ha:=anyRel W0 l (fun r=>!properB r) 137 [] [] (fun r hr=>c_condV1 W0 r (by have:=wtRels_mem hr;rw [Rel.wt] at this;omega)) (by omega)
  obtain ⟨A,hA⟩:∃A,(l.any fun r=>!properB r)=A:=⟨_,rfl⟩
  have hlB:listB l = !((l.length:Int) == 0||A):=by unfold listB;rw [hA]
  rw [hA] at ha
  rw [hlB] at hd
  clear hA hlB
  simp only [push_cast,seval,reduceEqDiff,hz,wrap_zip l (done:=done) (by omega),e1]
  repeat' (first|(((first|apply condU_s|apply gdU_t|apply gdU_f)<;>intro _h)<;>(simp only [push_cast,seval,reduceEqDiff,_h,hz,wrap_zip l (done:=done) (by omega),e1];try (have _g:=_h;simp at _g)))|intro _)
  all_goals (try (refine c_callsq ha ?_;simp only [push_cast,seval,reduceEqDiff]))
  repeat' (first|(((first|apply condU_s|apply gdU_t|apply gdU_f)<;>intro _h)<;>(simp only [push_cast,seval,reduceEqDiff,_h,hz,wrap_zip l (done:=done) (by omega),e1];try (have _g:=_h;simp at _g)))|intro _)
  all_goals (first|(exact ⟨_,_,Nat.lt_succ_self _,StLe.refl,done++[l],rest,_,_,by simp,rfl,by rw [<-hd,hz,Int.add_assoc];simp [*],by omega,by rw [<-hz];omega,rfl⟩)|skip)
  all_goals subst hd
  all_goals (first|(refine finW_ret ?_;simp [get, *]<;>(intros;omega);done)|(refine finW_rets ?_;simp [push_cast,get, *];done)|skip)
def inB (l:List Span) (n:Int):Bool:=l.any fun s=>decide (n>=s.lo)&&decide (n<=s.hi)
theorem ixSpan:okFn Tryz.prog 262 19 (gIF_0 68 2 true) gIFR=true:=by kernel_rfl
theorem coSpan:okFn Tryz.prog 239 9 (gCF_0 262) gCFR=true:=by kernel_rfl
theorem c_in1 (s:Span) (n:Int) (a:Nat):RetS Tryz.prog W0 240 [s.enc,.ref (a,3) 0] [((a,3),.box (.i .i64 n))] (.b (decide (n>=s.lo)&&decide (n<=s.hi))) [((a,3),.box (.i .i64 n))]:=by
 rw [Span.enc_eq]
 refine fn_retW (vs:=[.b (decide (n>=s.lo)&&decide (n<=s.hi))]) f240ok (by simp) (fun _ h=>h) fun n0 hn0=>?_
 clear hn0
 simp only [push_cast,seval,reduceEqDiff]
 repeat' (first|(((first|apply condU_s|apply gdU_t|apply gdU_f)<;>intro _h)<;>(simp only [push_cast,seval,reduceEqDiff,_h];try (have _g:=_h;simp at _g)))|intro _)
 all_goals (refine finW_retS ?_ (lk_drop1 (by simp [lk]));simp [get, *])
theorem c_in (l:List Span) (n:Int) (hl:l.length<2^62):RetS Tryz.prog W0 208 [.sl (l.map Span.enc),.i .i64 n] [] (.b (inB l n)) []:=by
 unfold inB
 refine fn_retW (vs:=[.b (l.any fun s=>decide (n>=s.lo)&&decide (n<=s.hi))]) f208ok (by simp) (by simp) fun n0 hn0=>?_
 clear hn0
 simp only [push_cast,seval,reduceEqDiff]
 intro k1
 have hc:RetS Tryz.prog W0 239 [.sl (l.map Span.enc),.fn 240 [] [.ref (n0,3) 0]] [((n0,3),.box (.i .i64 n))] (.b (l.any fun s=>decide (n>=s.lo)&&decide (n<=s.hi))) [((n0,3),.box (.i .i64 n))]:=by
  rw [<-idxI_ge]
  exact containsFunc_ret W0 coSpan _ _ _ _ (indexFunc_ret W0 ixSpan Span.enc l _ _ [] _ _ (fun x _=>elOk_agg rfl) (fun s _=>c_in1 W0 s n n0) hl)
 refine c_calls hc (fun _ _ h=>h) ?_
 rw [over_self]
 simp only [push_cast,seval,reduceEqDiff]
 repeat' (first|(((first|apply condU_s|apply gdU_t|apply gdU_f)<;>intro _h)<;>(simp only [push_cast,seval,reduceEqDiff,_h];try (have _g:=_h;simp at _g)))|intro _)
 all_goals (first|(refine finW_ret ?_;simp [get]<;>(intros;omega);done)|(refine finW_rets ?_;simp [push_cast,get];done)|skip)
def holdsB (r:Rel) (s:Bytes):Bool:=
 if (opV s r.op).2 != 0 then r.neg else inB r.spans (if r.mod != 0 then (opV s r.op).1.tmod r.mod else (opV s r.op).1) != r.neg
theorem c_holds (r:Rel) (s:Bytes) (hs:s.length<=2^30) (hl:r.spans.length<2^62):RetS Tryz.prog W0 176 [r.enc,.s s] [] (.b (holdsB r s)) []:=by
 generalize hS:holdsB r s=S
 unfold holdsB at hS
 rw [Rel.enc_eq]
 refine fn_retW (vs:=[.b S]) f176ok (by simp) (by simp) fun n0 hn0=>?_
 clear hn0
 simp only [push_cast,seval,reduceEqDiff]
 repeat' (first|(((first|apply condU_s|apply gdU_t|apply gdU_f)<;>intro _h)<;>(simp only [push_cast,seval,reduceEqDiff,_h];try (have _g:=_h;simp at _g)))|((first|refine c_call (by exact c_opD W0 s r.op (by omega)) ?_|refine c_call (by exact c_in W0 r.spans _ hl) ?_);simp only [push_cast,seval,reduceEqDiff])|intro _)
 all_goals (try (simp only [push_cast,seval,reduceEqDiff,ne_eq,_g,not_false_eq_true]))
 repeat' (first|(((first|apply condU_s|apply gdU_t|apply gdU_f)<;>intro _h)<;>(simp only [push_cast,seval,reduceEqDiff,_h];try (have _g:=_h;simp at _g)))|(refine c_call (by exact c_in W0 r.spans _ hl) ?_;simp only [push_cast,seval,reduceEqDiff])|intro _)
 all_goals subst hS
 all_goals (refine finW_ret ?_;simp [get, *]<;>simp [bne])
theorem c_holds11 (r:Rel) (s:Bytes) (a:Nat) (hs:s.length<=2^30) (hl:r.spans.length<2^62):RetS Tryz.prog W0 175 [r.enc,.ref (a,3) 0] [((a,3),.box (.s s))] (.b (!holdsB r s)) [((a,3),.box (.s s))]:=by
 have h:=c_holds W0 r s hs hl
 rw [Rel.enc_eq] at *
 refine fn_retW (vs:=[.b (!holdsB r s)]) f175ok (by simp) (fun _ h=>h) fun n0 hn0=>?_
 clear hn0
 simp only [push_cast,seval,reduceEqDiff]
 repeat' (first|(((first|apply condU_s|apply gdU_t|apply gdU_f)<;>intro _h)<;>(simp only [push_cast,seval,reduceEqDiff,_h];try (have _g:=_h;simp at _g)))|(refine c_call (by exact h) ?_;simp only [push_cast,seval,reduceEqDiff])|intro _)
 all_goals (refine finW_retS ?_ (lk_drop1 (by simp [lk]));simp [get])
theorem c_holds1 (l:List Rel) (s:Bytes) (a:Nat) (hs:s.length<=2^30) (hl:wtRels l<=2^30):RetS Tryz.prog W0 174 [relsV l,.ref (a,3) 0] [((a,3),.box (.s s))] (.b (!l.any fun r=>!holdsB r s)) [((a,3),.box (.s s))]:=by
 have hlw:=len_wtRels l
 have h:=anyRel W0 l (fun r=>!holdsB r s) 175 [.ref (a,3) 0] [((a,3),.box (.s s))] (fun r hr=>c_holds11 W0 r s a hs (by have:=wtRels_mem hr;rw [Rel.wt] at this;omega)) (by omega)
 rw [relsV_eq]
 generalize (l.any fun r=>!holdsB r s)=A at h
 refine fn_retW (vs:=[.b (!A)]) f174ok (by simp) (fun _ h=>h) fun n0 hn0=>?_
 clear hn0
 simp only [push_cast,seval,reduceEqDiff]
 repeat' (first|(((first|apply condU_s|apply gdU_t|apply gdU_f)<;>intro _h)<;>(simp only [push_cast,seval,reduceEqDiff,_h];try (have _g:=_h;simp at _g)))|intro _)
 refine c_calls h (fun _ _ h=>h) ?_
 rw [over_self]
 simp only [push_cast,seval,reduceEqDiff]
 repeat' (first|(((first|apply condU_s|apply gdU_t|apply gdU_f)<;>intro _h)<;>(simp only [push_cast,seval,reduceEqDiff,_h];try (have _g:=_h;simp at _g)))|intro _)
 all_goals (refine finW_retS ?_ (fun _ _ h=>h);simp [get])
def condH (c:List (List Rel)) (s:Bytes):Bool:=c.any fun l=>!l.any fun r=>!holdsB r s
theorem ixRels:okFn Tryz.prog 206 19 (gIF_0 72 1 false) gIFR=true:=by kernel_rfl
theorem coRels:okFn Tryz.prog 173 9 (gCF_0 206) gCFR=true:=by kernel_rfl
theorem c_condH (c:List (List Rel)) (s:Bytes) (hs:s.length<=2^30) (hb:wtCond c<=2^30):RetS Tryz.prog W0 148 [.sl (c.map relsV),.s s] [] (.tup [.b (condB c&&numB s&&condH c s),.i .i64 (bif condB c&&numB s then 0 else 1)]) []:=by
 have hlc:=len_wtCond c
 generalize hA:condH c s=A
 refine fn_retW (vs:=[.b (condB c&&numB s&&A),.i .i64 (bif condB c&&numB s then 0 else 1)]) f148ok (by simp) (by simp) fun n0 hn0=>?_
 clear hn0
 simp only [push_cast,seval,reduceEqDiff]
 intro k1
 have hc:RetS Tryz.prog W0 173 [.sl (c.map relsV),.fn 174 [] [.ref (n0,3) 0]] [((n0,3),.box (.s s))] (.b A) [((n0,3),.box (.s s))]:=by
  rw [<-hA,condH,<-idxI_ge]
  exact containsFunc_ret W0 coRels _ _ _ _ (indexFunc_ret W0 ixRels relsV c _ _ [] _ _ (fun x _=>elOk_one rfl) (fun l hl=>c_holds1 W0 l s n0 hs (Nat.le_trans (wtCond_mem hl) hb)) (by omega))
 repeat' (first|(((first|apply condU_s|apply gdU_t|apply gdU_f)<;>intro _h)<;>(simp only [push_cast,seval,reduceEqDiff,_h];try (have _g:=_h;simp at _g)))|((first|refine c_call (by exact c_condV W0 c hb) ?_|refine c_call (by exact c_dValid W0 s (by omega)) ?_);simp only [push_cast,seval,reduceEqDiff])|intro _)
 all_goals (try (refine c_calls hc (fun _ _ h=>h) ?_;rw [over_self];simp only [push_cast,seval,reduceEqDiff]))
 repeat' (first|(((first|apply condU_s|apply gdU_t|apply gdU_f)<;>intro _h)<;>(simp only [push_cast,seval,reduceEqDiff,_h];try (have _g:=_h;simp at _g)))|intro _)
 all_goals (first|(refine finW_ret ?_;simp [get, *]<;>(intros;omega);done)|(refine finW_rets ?_;simp [push_cast,get, *];done)|skip)
def kOther:Bytes:=[111,116,104,101,114]
def kFive:List Bytes:=[[122,101,114,111],[111,110,101],[116,119,111],[102,101,119],[109,97,110,121]]
def kSix:List Bytes:=[[122,101,114,111],[111,110,101],[116,119,111],[102,101,119],[109,97,110,121],[111,116,104,101,114]]
theorem c_order:RetS Tryz.prog W0 135 [] [] (.agg (kSix.map V.s)) []:=by
 unfold kSix
 simp only [List.map_cons,List.map_nil]
 refine fn_retW (vs:=[.agg [.s [122,101,114,111],.s [111,110,101],.s [116,119,111],.s [102,101,119],.s [109,97,110,121],.s [111,116,104,101,114]]]) f135ok (by simp) (by simp) fun n0 hn0=>?_
 clear hn0
 simp only [push_cast,seval,reduceEqDiff]
 repeat' (first|(((first|apply condU_s|apply gdU_t|apply gdU_f)<;>intro _h)<;>(simp only [push_cast,seval,reduceEqDiff,_h];try (have _g:=_h;simp at _g)))|intro _)
 all_goals (first|(refine finW_ret ?_;simp [get]<;>(intros;omega);done)|(refine finW_rets ?_;simp [push_cast,get];done)|skip)
theorem ixStr:okFn Tryz.prog 111 19 (gIX_0 9) gIXR=true:=by kernel_rfl
theorem coStr:okFn Tryz.prog 69 9 (gCO_0 111) gCOR=true:=by kernel_rfl
theorem c_containsS (l:List Bytes) (v:Bytes) (hl:l.length<2^62):RetS Tryz.prog W0 69 [.sl (l.map V.s),.s v] [] (.b (l.contains v)) []:=by
 rw [List.contains_eq_any_beq,<-idxI_ge]
 exact containsS_ret W0 coStr _ _ _ (indexS_ret W0 ixStr l v hl)
theorem c_known (s:Bytes):RetS Tryz.prog W0 93 [.s s] [] (.b (kSix.contains s)) []:=by
 have ho:=c_order W0
 have hc:=c_containsS W0 kSix s (by decide)
 generalize hK:kSix.contains s=K at hc
 unfold kSix at ho hc
 simp only [List.map_cons,List.map_nil] at ho hc
 refine fn_retW (vs:=[.b K]) f93ok (by simp) (by simp) fun n0 hn0=>?_
 clear hn0
 simp only [push_cast,seval,reduceEqDiff]
 repeat' (first|(((first|apply condU_s|apply gdU_t|apply gdU_f)<;>intro _h)<;>(simp only [push_cast,seval,reduceEqDiff,_h];try (have _g:=_h;simp at _g)))|(refine c_call (by exact ho) ?_;simp only [push_cast,seval,reduceEqDiff])|intro _)
 repeat' (first|(((first|apply condU_s|apply gdU_t|apply gdU_f)<;>intro _h)<;>(simp only [push_cast,seval,reduceEqDiff,_h];try (have _g:=_h;simp at _g)))|(refine c_call (by exact hc) ?_;simp only [push_cast,seval,reduceEqDiff])|intro _)
 all_goals (first|(refine finW_ret ?_;simp [get]<;>(intros;omega);done)|(refine finW_rets ?_;simp [push_cast,get];done)|skip)
def clsB (s:Bytes):Bool:=kFive.contains s
theorem clsB_eq (s:Bytes):(!kSix.contains s||s == kOther) = !clsB s:=by
 unfold clsB kSix kFive kOther
 rw [Bool.eq_iff_iff]
 simp
 constructor
 ·rintro (h|rfl)
  ·exact ⟨h.1,h.2.1,h.2.2.1,h.2.2.2.1,h.2.2.2.2.1⟩
  ·decide
 ·intro h
  by_cases ho:s=[111,116,104,101,114]
  ·exact .inr ho
  ·exact .inl ⟨h.1,h.2.1,h.2.2.1,h.2.2.2.1,h.2.2.2.2,ho⟩
def rulesF (done:List Rule):List Rule->Bool
 | []=>true
 | r::rest=>!(!clsB r.cls||!condB r.cond||done.any fun x=>x.cls == r.cls)&&rulesF (done++[r]) rest
theorem ifRule:okFn Tryz.prog 139 19 (gIF_0 76 2 true) gIFR=true:=by kernel_rfl
theorem cfRule:okFn Tryz.prog 95 9 (gCF_0 139) gCFR=true:=by kernel_rfl
theorem c_pValid1 (x r:Rule) (a:Nat):RetS Tryz.prog W0 96 [x.enc,.ref (a,4) 0] [((a,4),.box r.enc)] (.b (x.cls == r.cls)) [((a,4),.box r.enc)]:=by
 rw [Rule.enc_eq,Rule.enc_eq]
 refine fn_retW (vs:=[.b (x.cls == r.cls)]) f96ok (by simp) (fun _ h=>h) fun n0 hn0=>?_
 clear hn0
 simp only [push_cast,seval,reduceEqDiff]
 repeat' (first|(((first|apply condU_s|apply gdU_t|apply gdU_f)<;>intro _h)<;>(simp only [push_cast,seval,reduceEqDiff,_h];try (have _g:=_h;simp at _g)))|intro _)
 all_goals (refine finW_retS ?_ (lk_drop1 (by simp [lk]));simp [get])
theorem c_pValid (l:List Rule) (hb:wtRules l<=2^30):RetS Tryz.prog W0 47 [.sl (l.map Rule.enc)] [] (.b (rulesF [] l)) []:=by
 generalize hS:rulesF [] l=S
 have hlen:=len_wtRules l
 refine fn_retW (vs:=[.b S]) f47ok (by simp) (by simp) fun n0 hn0=>?_
 clear hn0
 simp only [push_cast,seval,reduceEqDiff]
 intros
 refine aWP_loopW l.length (Inv:=fun m st=>∃done rest n,l=done++rest/\m=rest.length/\rulesF done rest=S/\st=⟨[(0,.sl (l.map Rule.enc)),(5,.sl (l.map Rule.enc)),(6,.i .i64 l.length),(7,.i .i64 done.length)],[],n⟩) ⟨_,StLe.refl,[],_,_,rfl,rfl,hS,rfl⟩ ?_
 clear hS
 rintro m _ ⟨done,rest,n,hz,rfl,hd,rfl⟩
 cases rest with
 | nil=>
  rw [rulesF] at hd
  simp only [push_cast,seval,reduceEqDiff,hz]
  repeat' (first|(((first|apply condU_s|apply gdU_t|apply gdU_f)<;>intro _h)<;>(simp only [push_cast,seval,reduceEqDiff,_h];try (have _g:=_h;simp at _g)))|intro _)
  subst hd
  all_goals (first|(refine finW_ret ?_;simp [get]<;>(intros;omega);done)|(refine finW_rets ?_;simp [push_cast,get];done)|skip)
 | cons r rest=>
  have hbd:=zip_bd hz
  have hw:=wtRules_mem (l:=l) (r:=r) (by rw [hz];simp)
  rw [Rule.wt] at hw
  rw [rulesF,<-clsB_eq] at hd
  unfold kOther at hd
  have eA:∀y∈List.map Rule.enc (done++r::rest),(cells y).length=2:=by
   intro y hy;obtain ⟨x,_,rfl⟩:=List.mem_map.1 hy;rfl
  obtain ⟨A,hA⟩:∃A,(done.any fun x=>x.cls == r.cls)=A:=⟨_,rfl⟩
  rw [hA] at hd
  simp only [push_cast,seval,reduceEqDiff,hz,wrap_zip r (done:=done) (by omega),eq_true eA]
  intro k1 k2
  have hc:RetS Tryz.prog W0 95 [.sl (done.map Rule.enc),.fn 96 [] [.ref (n+1+k1,4) 0]] [((n+1+k1,4),.box r.enc)] (.b A) [((n+1+k1,4),.box r.enc)]:=by
   rw [<-hA,<-idxI_ge]
   exact containsFunc_ret W0 cfRule _ _ _ _ (indexFunc_ret W0 ifRule Rule.enc done _ _ [] _ _ (fun x _=>elOk_agg rfl) (fun x _=>c_pValid1 W0 x r _) (by omega))
  clear hA
  rw [Rule.enc_eq] at hc
  repeat' (first|(((first|apply condU_s|apply gdU_t|apply gdU_f)<;>intro _h)<;>(simp only [push_cast,seval,reduceEqDiff,_h,hz,wrap_zip r (done:=done) (by omega),eq_true eA];try (have _g:=_h;simp at _g)))|((first|refine c_call (by exact c_known W0 r.cls) ?_|refine c_call (by exact c_condV W0 r.cond (by omega)) ?_);simp only [push_cast,seval,reduceEqDiff,hz,wrap_zip r (done:=done) (by omega),eq_true eA])|intro _)
  all_goals (try (refine c_calls hc (fun _ _ h=>h) ?_;rw [over_self];simp only [push_cast,seval,reduceEqDiff]))
  repeat' (first|(((first|apply condU_s|apply gdU_t|apply gdU_f)<;>intro _h)<;>(simp only [push_cast,seval,reduceEqDiff,_h,hz,wrap_zip r (done:=done) (by omega),eq_true eA];try (have _g:=_h;simp at _g)))|intro _)
  all_goals (first|(exact ⟨_,_,Nat.lt_succ_self _,StLe.drop1 (by simp [lk]) (Nat.le_refl _),done++[r],rest,_,by simp,rfl,by rw [<-hd];simp [*],rfl⟩)|skip)
  all_goals subst hd
  all_goals (first|(refine finW_ret ?_;simp [get, *]<;>(intros;omega);done)|(refine finW_rets ?_;simp [push_cast,get, *];done)|skip)
def clsOf (s:Bytes):List Rule->Bytes
 | []=>kOther
 | r::rest=>bif condH r.cond s then r.cls else clsOf s rest
def classV (l:List Rule) (s:Bytes):Bytes × Int:=bif rulesF [] l&&numB s then (clsOf s l,0) else ([],1)
theorem rulesF_cond {done rest:List Rule} (h:rulesF done rest=true):∀r∈rest,condB r.cond=true:=by
 induction rest generalizing done with
 | nil=>intro r hr;cases hr
 | cons x rest ih=>
  rw [rulesF] at h
  simp only [Bool.and_eq_true,Bool.not_eq_true',Bool.or_eq_false_iff,Bool.not_eq_false'] at h
  intro r hr
  rcases List.mem_cons.1 hr with rfl|hr
  ·exact h.1.1.2
  ·exact ih h.2 r hr
theorem c_class (l:List Rule) (s:Bytes) (hs:s.length<=2^30) (hb:wtRules l<=2^30):RetS Tryz.prog W0 109 [.sl (l.map Rule.enc),.s s] [] (.tup [.s (classV l s).1,.i .i64 (classV l s).2]) []:=by
 generalize hS:classV l s=S
 have hlen:=len_wtRules l
 unfold classV at hS
 have ha:=c_condH W0 [[⟨2,0,true,[⟨0,0⟩]⟩]] s hs (by decide)
 rw [show condB [[⟨2,0,true,[⟨0,0⟩]⟩]]=true by decide,Bool.true_and] at ha
 simp only [List.map_cons,List.map_nil,relsV_eq,Rel.enc_eq,Span.enc_eq] at ha
 generalize condH [[⟨2,0,true,[⟨0,0⟩]⟩]] s=A0 at ha
 rcases Bool.eq_false_or_eq_true (numB s) with hN|hN
 all_goals (rw [hN] at ha hS;simp only [Bool.true_and,Bool.false_and,Bool.and_true,Bool.and_false,cond_true,cond_false] at ha hS)
 ·rcases Bool.eq_false_or_eq_true (rulesF [] l) with hR|hR
  all_goals (rw [hR] at hS;simp only [cond_true,cond_false] at hS;subst hS)
  ·have hcs:=rulesF_cond hR
   generalize hS:clsOf s l=S
   have hv:=c_pValid W0 l hb
   rw [hR] at hv
   refine fn_retW (vs:=[.s S,.i .i64 0]) f109ok (by simp) (by simp) fun n0 hn0=>?_
   clear hn0
   simp only [push_cast,seval,reduceEqDiff]
   repeat' (first|(((first|apply condU_s|apply gdU_t|apply gdU_f)<;>intro _h)<;>(simp only [push_cast,seval,reduceEqDiff,_h];try (have _g:=_h;simp at _g)))|((first|refine c_call (by exact hv) ?_|refine c_call (by exact ha) ?_);simp only [push_cast,seval,reduceEqDiff])|intro _)
   refine aWP_loopW l.length (Inv:=fun m st=>∃done rest n,l=done++rest/\m=rest.length/\clsOf s rest=S/\st=⟨[(1,.s s),(29,.sl (l.map Rule.enc)),(30,.i .i64 l.length),(31,.i .i64 done.length)],[],n⟩) ⟨_,StLe.refl,[],_,_,rfl,rfl,hS,rfl⟩ ?_
   clear hS
   rintro m _ ⟨done,rest,n,hz,rfl,hd,rfl⟩
   cases rest with
   | nil=>
    rw [clsOf] at hd
    unfold kOther at hd
    subst hd
    simp only [push_cast,seval,reduceEqDiff,hz]
    repeat' (first|(((first|apply condU_s|apply gdU_t|apply gdU_f)<;>intro _h)<;>(simp only [push_cast,seval,reduceEqDiff,_h];try (have _g:=_h;simp at _g)))|intro _)
    all_goals (first|(refine finW_ret ?_;simp [get]<;>(intros;omega);done)|(refine finW_rets ?_;simp [push_cast,get];done)|skip)
   | cons r rest=>
    have hbd:=zip_bd hz
    have hw:=wtRules_mem (l:=l) (r:=r) (by rw [hz];simp)
    rw [Rule.wt] at hw
    have hcd:=hcs r (by rw [hz];simp)
    have hh:=c_condH W0 r.cond s hs (by omega)
    rw [hcd,hN] at hh
    simp only [Bool.true_and,Bool.and_true,cond_true] at hh
    rw [clsOf] at hd
    simp only [push_cast,seval,reduceEqDiff,hz,wrap_zip r (done:=done) (by omega)]
    repeat' (first|(((first|apply condU_s|apply gdU_t|apply gdU_f)<;>intro _h)<;>(simp only [push_cast,seval,reduceEqDiff,_h,hz,wrap_zip r (done:=done) (by omega)];try (have _g:=_h;simp at _g)))|(refine c_call (by exact hh) ?_;simp only [push_cast,seval,reduceEqDiff,hz,wrap_zip r (done:=done) (by omega)])|intro _)
    all_goals (first|(exact ⟨_,_,Nat.lt_succ_self _,StLe.drop1 (by simp [lk]) (Nat.le_refl _),done++[r],rest,_,by simp,rfl,by rw [<-hd];simp [*],rfl⟩)|skip)
    all_goals subst hd
    all_goals (first|(refine finW_ret ?_;simp [get, *]<;>(intros;omega);done)|(refine finW_rets ?_;simp [push_cast,get, *];done)|skip)
  ·have hv:=c_pValid W0 l hb
   rw [hR] at hv
   refine fn_retW (vs:=[.s [],.i .i64 1]) f109ok (by simp) (by simp) fun n0 hn0=>?_
   clear hn0
   simp only [push_cast,seval,reduceEqDiff]
   repeat' (first|(((first|apply condU_s|apply gdU_t|apply gdU_f)<;>intro _h)<;>(simp only [push_cast,seval,reduceEqDiff,_h];try (have _g:=_h;simp at _g)))|(refine c_call (by exact hv) ?_;simp only [push_cast,seval,reduceEqDiff])|intro _)
   all_goals (first|(refine finW_ret ?_;simp [get]<;>(intros;omega);done)|(refine finW_rets ?_;simp [push_cast,get];done)|skip)
 ·subst hS
  refine fn_retW (vs:=[.s [],.i .i64 1]) f109ok (by simp) (by simp) fun n0 hn0=>?_
  clear hn0
  simp only [push_cast,seval,reduceEqDiff]
  repeat' (first|(((first|apply condU_s|apply gdU_t|apply gdU_f)<;>intro _h)<;>(simp only [push_cast,seval,reduceEqDiff,_h];try (have _g:=_h;simp at _g)))|((first|refine c_call (by exact c_pValid W0 l hb) ?_|refine c_call (by exact ha) ?_);simp only [push_cast,seval,reduceEqDiff])|intro _)
  all_goals (first|(refine finW_ret ?_;simp [get]<;>(intros;omega);done)|(refine finW_rets ?_;simp [push_cast,get];done)|skip)

end Go.Ir
namespace Go.Ir
open Go.Proofs
variable {P : Program} {W0 : World} {nt n : Nat} {Q : Exit → St → Prop} {env : Env} {σ : Sto}
def f185_10:IC:=.seq (.ops [m1 16 1,o1 17 (.call 218 [.t 16]),m1 18 17,⟨some 19,.mv (.t 6),some (18,false),[]⟩,⟨some 20,.mv (.t 19),some (18,false),[]⟩,⟨some 21,.mv (.t 5),some (20,true),[]⟩,⟨some 22,.call 108 [.t 21],some (20,true),[]⟩,⟨some 23,.pick (.t 20) (.t 22) (.c (.b false)),some (18,false),[]⟩,o1 24 (.pick (.t 18) (.c (.b true)) (.t 23)),m1 4 24] [4] []) .ret
def f185_8:IC:=.seq (.ops [m1 12 1,o1 13 (.call 73 [.t 12,(.c (.s [61]))]),m1 11 13,o1 14 (.ext (.t 11) 0),o1 15 (.ext (.t 11) 1),m1 5 14,m1 6 15] [1,5,6] []) f185_10
def f185_2:IC:=.seq (.seq (.ops [m1 7 0,o1 8 (.bin .eql (.t 7) (ci 9))] [1,8] []) (.cond (.t 8) (.seq (.ops [m1 9 1,o1 10 (.call 84 [.t 9]),m1 4 10] [4] []) .ret) .skip)) f185_8
def f185_0:IC:=.seq (.ops [o1 4 (.mv (.c (.b false)))] [0,1] []) f185_2
@[push_cast]def f185R:List R:=[.t 4]
@[push_cast]def f185e:=aWv f185_10.eq_1<|aWv f185_8.eq_1<|aWv f185_2.eq_1<|aWu f185_0.eq_1
theorem f185ok:okFn Tryz.prog 185 25 f185_0 f185R=true:=by kernel_rfl
def f152_15:IC:=.ops [o1 15 (.faddr (.t 1) 1),o1 16 (.load (.t 15) 1 false),o1 17 (.bin .neq (.t 16) (.c (.s []))),m1 4 17] [1,3,4] []
def f152_13:IC:=.seq (.ops [o1 12 (.faddr (.t 1) 1),o1 13 (.load (.t 12) 1 false),o1 14 (.faddr (.t 3) 1),o0 (.store (.t 14) (.t 13) 1)] [1,3] []) f152_15
def f152_26:IC:=.seq (.ops [o1 22 (.bin .eql (.t 9) (ci 8)),m1 18 22] [1,3,4,9,18] []) (.cond (.t 18) .skip (.ops [o1 23 (.bin .eql (.t 9) (ci 9)),m1 18 23] [1,3,4,9,18] []))
def f152_23:IC:=.seq (.ops [o1 21 (.bin .eql (.t 9) (ci 7)),m1 18 21] [1,3,4,9,18] []) (.cond (.t 18) .skip f152_26)
def f152_20:IC:=.seq (.ops [o1 20 (.bin .eql (.t 9) (ci 11)),m1 18 20] [1,3,4,9,18] []) (.cond (.t 18) .skip f152_23)
def f152_31:IC:=.ops [o1 24 (.faddr (.t 1) 2),o1 25 (.load (.t 24) 1 false),o1 26 (.faddr (.t 3) 2),o0 (.store (.t 26) (.t 25) 1)] [1,3,4] []
def f152_37:IC:=.ops [o1 35 (.faddr (.t 1) 3),o1 36 (.load (.t 35) 1 false),o1 37 (.bin .eql (.t 36) (.c (.s []))),m1 38 37,⟨some 39,.faddr (.t 1) 3,some (38,false),[]⟩,⟨some 40,.load (.t 39) 1 false,some (38,false),[]⟩,⟨some 41,.bin .eql (.t 40) (.c (.s [105,110,116,101,103,101,114])),some (38,false),[]⟩,o1 42 (.pick (.t 38) (.c (.b true)) (.t 41)),m1 43 42,⟨some 44,.faddr (.t 1) 3,some (43,false),[]⟩,⟨some 45,.load (.t 44) 1 false,some (43,false),[]⟩,⟨some 46,.bin .eql (.t 45) (.c (.s [112,101,114,99,101,110,116])),some (43,false),[]⟩,o1 47 (.pick (.t 43) (.c (.b true)) (.t 46)),m1 4 47] [1,3,4] []
def f152_35:IC:=.seq (.ops [o1 29 (.faddr (.t 1) 2),o1 30 (.load (.t 29) 1 false),o1 31 (.faddr (.t 1) 3),o1 32 (.load (.t 31) 1 false),o1 33 (.faddr (.t 3) 2),⟨none,.store (.t 33) (.t 30) 1,none,[.t 31]⟩,o1 34 (.faddr (.t 3) 3),o0 (.store (.t 34) (.t 32) 1)] [1,3] [[0,1],[2,3],[1,5],[4,5],[1,7],[3,7],[5,7],[6,7]]) f152_37
def f152_46:IC:=.ops [o1 57 (.faddr (.t 1) 3),o1 58 (.load (.t 57) 1 false),o1 59 (.call 84 [.t 58]),m1 4 59] [1,3,4] []
def f152_44:IC:=.seq (.ops [o1 51 (.faddr (.t 1) 2),o1 52 (.load (.t 51) 1 false),o1 53 (.faddr (.t 1) 3),o1 54 (.load (.t 53) 1 false),o1 55 (.faddr (.t 3) 2),⟨none,.store (.t 55) (.t 52) 1,none,[.t 53]⟩,o1 56 (.faddr (.t 3) 3),o0 (.store (.t 56) (.t 54) 1)] [1,3] [[0,1],[2,3],[1,5],[4,5],[1,7],[3,7],[5,7],[6,7]]) f152_46
def f152_52:IC:=.ops [o1 68 (.faddr (.t 1) 3),o1 69 (.load (.t 68) 1 false),o1 70 (.call 184 [.t 69]),m1 4 70] [1,3,4] []
def f152_50:IC:=.seq (.ops [o1 62 (.faddr (.t 1) 2),o1 63 (.load (.t 62) 1 false),o1 64 (.faddr (.t 1) 3),o1 65 (.load (.t 64) 1 false),o1 66 (.faddr (.t 3) 2),⟨none,.store (.t 66) (.t 63) 1,none,[.t 64]⟩,o1 67 (.faddr (.t 3) 3),o0 (.store (.t 67) (.t 65) 1)] [1,3] [[0,1],[2,3],[1,5],[4,5],[1,7],[3,7],[5,7],[6,7]]) f152_52
def f152_53:IC:=.seq (.ops [o1 72 (.bin .eql (.t 9) (ci 10)),m1 71 72] [1,3,4,71] []) (.cond (.t 71) .skip (.ops [o1 4 (.mv (.c (.b false)))] [1,3,4] []))
def f152_47:IC:=.seq (.ops [o1 61 (.bin .eql (.t 9) (ci 5)),m1 60 61] [1,3,4,9,60] []) (.cond (.t 60) f152_50 f152_53)
def f152_38:IC:=.seq (.seq (.ops [o1 49 (.bin .eql (.t 9) (ci 4)),m1 48 49] [1,3,4,9,48] []) (.cond (.t 48) .skip (.ops [o1 50 (.bin .eql (.t 9) (ci 6)),m1 48 50] [1,3,4,9,48] []))) (.cond (.t 48) f152_44 f152_47)
def f152_32:IC:=.seq (.ops [o1 28 (.bin .eql (.t 9) (ci 3)),m1 27 28] [1,3,4,9,27] []) (.cond (.t 27) f152_35 f152_38)
def f152_16:IC:=.seq (.seq (.ops [o1 19 (.bin .eql (.t 9) (ci 2)),m1 18 19] [1,3,4,9,18] []) (.cond (.t 18) .skip f152_20)) (.cond (.t 18) f152_31 f152_32)
def f152_9:IC:=.block 0 (.seq (.ops [o1 11 (.bin .eql (.t 9) (ci 1)),m1 10 11] [1,3,4,9,10] []) (.cond (.t 10) f152_13 f152_16))
def f152_61:IC:=.ops [m1 86 4,m1 87 86,⟨some 88,.faddr (.t 1) 2,some (87,true),[]⟩,⟨some 89,.load (.t 88) 1 false,some (87,true),[]⟩,⟨some 90,.call 84 [.t 89],some (87,true),[]⟩,o1 91 (.pick (.t 87) (.t 90) (.c (.b false))),m1 4 91] [1,3,4] []
def f152_62:IC:=.seq (.ops [m1 92 4,m1 93 92,⟨some 94,.faddr (.t 1) 1,some (93,true),[]⟩,⟨some 95,.load (.t 94) 1 false,some (93,true),[]⟩,⟨some 96,.faddr (.t 3) 1,some (93,true),[]⟩,⟨some 97,.load (.t 96) 1 false,some (93,true),[]⟩,⟨some 98,.bin .eql (.t 95) (.t 97),some (93,true),[]⟩,o1 99 (.pick (.t 93) (.t 98) (.c (.b false))),m1 100 99,⟨some 101,.faddr (.t 1) 2,some (100,true),[]⟩,⟨some 102,.load (.t 101) 1 false,some (100,true),[]⟩,⟨some 103,.faddr (.t 3) 2,some (100,true),[]⟩,⟨some 104,.load (.t 103) 1 false,some (100,true),[]⟩,⟨some 105,.bin .eql (.t 102) (.t 104),some (100,true),[]⟩,o1 106 (.pick (.t 100) (.t 105) (.c (.b false))),m1 107 106,⟨some 108,.faddr (.t 1) 3,some (107,true),[]⟩,⟨some 109,.load (.t 108) 1 false,some (107,true),[]⟩,⟨some 110,.faddr (.t 3) 3,some (107,true),[]⟩,⟨some 111,.load (.t 110) 1 false,some (107,true),[]⟩,⟨some 112,.bin .eql (.t 109) (.t 111),some (107,true),[]⟩,o1 113 (.pick (.t 107) (.t 112) (.c (.b false))),m1 114 113,⟨some 115,.faddr (.t 1) 4,some (114,true),[]⟩,⟨some 116,.load (.t 115) 1 false,some (114,true),[]⟩,⟨some 117,.lenL (.t 116),some (114,true),[]⟩,⟨some 118,.bin .eql (.t 117) (ci 0),some (114,true),[]⟩,⟨some 119,.mv (.t 118),some (114,true),[]⟩,⟨some 120,.faddr (.t 1) 0,some (119,false),[]⟩,⟨some 121,.load (.t 120) 1 false,some (119,false),[]⟩,⟨some 122,.call 76 [.t 121],some (119,false),[]⟩,⟨some 123,.pick (.t 119) (.c (.b true)) (.t 122),some (114,true),[]⟩,o1 124 (.pick (.t 114) (.t 123) (.c (.b false))),m1 125 124,⟨some 126,.faddr (.t 1) 5,some (125,true),[]⟩,⟨some 127,.load (.t 126) 1 false,some (125,true),[]⟩,⟨some 128,.lenL (.t 127),some (125,true),[]⟩,⟨some 129,.bin .eql (.t 128) (ci 0),some (125,true),[]⟩,⟨some 130,.mv (.t 129),some (125,true),[]⟩,⟨some 131,.faddr (.t 1) 0,some (130,false),[]⟩,⟨some 132,.load (.t 131) 1 false,some (130,false),[]⟩,⟨some 133,.bin .eql (.t 132) (ci 11),some (130,false),[]⟩,⟨some 134,.pick (.t 130) (.c (.b true)) (.t 133),some (125,true),[]⟩,o1 135 (.pick (.t 125) (.t 134) (.c (.b false))),m1 2 135] [2] []) .ret
def f152_57:IC:=.seq (.seq (.ops [o1 73 (.faddr (.t 3) 2),o1 74 (.load (.t 73) 1 false),o1 75 (.bin .neq (.t 74) (.c (.s []))),m1 76 75,⟨some 77,.faddr (.t 1) 0,some (76,false),[]⟩,⟨some 78,.load (.t 77) 1 false,some (76,false),[]⟩,⟨some 79,.bin .neq (.t 78) (ci 1),some (76,false),[]⟩,⟨some 80,.mv (.t 79),some (76,false),[]⟩,⟨some 81,.faddr (.t 1) 0,some (80,true),[]⟩,⟨some 82,.load (.t 81) 1 false,some (80,true),[]⟩,⟨some 83,.bin .neq (.t 82) (ci 10),some (80,true),[]⟩,⟨some 84,.pick (.t 80) (.t 83) (.c (.b false)),some (76,false),[]⟩,o1 85 (.pick (.t 76) (.c (.b true)) (.t 84))] [1,3,4,85] []) (.cond (.t 85) f152_61 .skip)) f152_62
def f152_6:IC:=.seq (.seq (.ops [o1 8 (.faddr (.t 1) 0),o1 9 (.load (.t 8) 1 false)] [1,3,4,9] []) f152_9) f152_57
def f152_2:IC:=.seq (.ops [o1 5 (.faddr (.t 1) 0),o1 6 (.load (.t 5) 1 false),o1 7 (.build [(.i .i64 0),(.s []),(.s []),(.s []),.nil,.nil] [(0,1,(.t 6))]),o1 3 (.alloc (.agg [(.i .i64 0),(.s []),(.s []),(.s []),.nil,.nil])),o0 (.store (.t 3) (.t 7) 6)] [1,3] []) (.seq (.ops [o1 4 (.mv (.c (.b true)))] [1,3,4] []) f152_6)
def f152_0:IC:=.seq (.ops [o1 1 (.box (.t 0)),o1 2 (.mv (.c (.b false)))] [1] []) f152_2
@[push_cast]def f152R:List R:=[.t 2]
@[push_cast]def f152e:=aWv f152_15.eq_1<|aWv f152_13.eq_1<|aWv f152_26.eq_1<|aWv f152_23.eq_1<|aWv f152_20.eq_1<|aWv f152_31.eq_1<|aWv f152_37.eq_1<|aWv f152_35.eq_1<|aWv f152_46.eq_1<|aWv f152_44.eq_1<|aWv f152_52.eq_1<|aWv f152_50.eq_1<|aWv f152_53.eq_1<|aWv f152_47.eq_1<|aWv f152_38.eq_1<|aWv f152_32.eq_1<|aWv f152_16.eq_1<|aWv f152_9.eq_1<|aWv f152_61.eq_1<|aWv f152_62.eq_1<|aWv f152_57.eq_1<|aWv f152_6.eq_1<|aWv f152_2.eq_1<|aWu f152_0.eq_1
theorem f152ok:okFn Tryz.prog 152 136 f152_0 f152R=true:=by kernel_rfl
end Go.Ir
namespace Go.Ir
open Go.Proofs
variable (W0 : World)
def keyN:Bytes->Bool
 | []=>false
 | c::t=>(c.toNat:Int) == 61&&numB t
def keyB (kind:Int) (s:Bytes):Bool:=if kind == 9 then nameB s else classB s||keyN s
theorem numB_nil:numB []=false:=by decide
theorem c_sKey (kind:Int) (s:Bytes) (hs:s.length<=2^30):RetS Tryz.prog W0 185 [.i .i64 kind,.s s] [] (.b (keyB kind s)) []:=by
 generalize hS:keyB kind s=S
 unfold keyB at hS
 have h1:=c_tName W0 s (by unfold SLim;omega)
 have h2:=c_sClass W0 s
 have hc:=c_cutPrefix W0 s [61]
 cases s with
 | nil=>
  have hv:=c_dValid W0 [] (by simp)
  refine fn_retW (vs:=[.b S]) f185ok (by simp) (by simp) fun n0 hn0=>?_
  clear hn0
  simp only [push_cast,seval,reduceEqDiff]
  repeat' (first|(((first|apply condU_s|apply gdU_t|apply gdU_f)<;>intro _h)<;>(simp only [push_cast,seval,reduceEqDiff,_h];try (have _g:=_h;simp at _g)))|((first|refine c_call (by exact h1) ?_|refine c_call (by exact h2) ?_|refine c_call (by exact hc) ?_|refine c_call (by exact hv) ?_);simp only [push_cast,seval,reduceEqDiff])|intro _)
  all_goals subst hS
  all_goals (first|(refine finW_ret ?_;simp [get,keyN,numB_nil, *]<;>(intros;omega);done)|(refine finW_rets ?_;simp [push_cast,get,keyN,numB_nil, *];done)|skip)
 | cons c t=>
  have hp:Lib.hasPrefix (c::t) [61]=((c.toNat:Int) == 61):=by
   unfold Lib.hasPrefix
   simp only [List.isPrefixOf,Bool.and_true]
   rw [Bool.eq_iff_iff];simp [<-UInt8.toNat_inj];omega
  have hq:Lib.trimPrefix (c::t) [61]=if ((c.toNat:Int) == 61)=true then t else c::t:=by
   unfold Lib.trimPrefix
   rw [hp]
   rfl
  rw [hp,hq] at hc
  generalize nameB (c::t)=N at h1 hS
  generalize classB (c::t)=C at h2 hS
  rw [keyN] at hS
  have hv:=c_dValid W0 t (by simp at hs;omega)
  rcases Bool.eq_false_or_eq_true ((c.toNat:Int) == 61) with h6|h6
  all_goals (rw [h6] at hc hS;simp only [if_true,Bool.true_and,Bool.false_and,Bool.false_eq_true,if_false] at hc hS)
  ·skip
   refine fn_retW (vs:=[.b S]) f185ok (by simp) (by simp) fun n0 hn0=>?_
   clear hn0
   simp only [push_cast,seval,reduceEqDiff]
   repeat' (first|(((first|apply condU_s|apply gdU_t|apply gdU_f)<;>intro _h)<;>(simp only [push_cast,seval,reduceEqDiff,_h];try (have _g:=_h;simp at _g)))|((first|refine c_call (by exact h1) ?_|refine c_call (by exact h2) ?_|refine c_call (by exact hc) ?_|refine c_call (by exact hv) ?_);simp only [push_cast,seval,reduceEqDiff])|intro _)
   all_goals subst hS
   all_goals (first|(refine finW_ret ?_;simp [get, *]<;>(intros;omega);done)|(refine finW_rets ?_;simp [push_cast,get, *];done)|skip)
  ·skip
   refine fn_retW (vs:=[.b S]) f185ok (by simp) (by simp) fun n0 hn0=>?_
   clear hn0
   simp only [push_cast,seval,reduceEqDiff]
   repeat' (first|(((first|apply condU_s|apply gdU_t|apply gdU_f)<;>intro _h)<;>(simp only [push_cast,seval,reduceEqDiff,_h];try (have _g:=_h;simp at _g)))|((first|refine c_call (by exact h1) ?_|refine c_call (by exact h2) ?_|refine c_call (by exact hc) ?_);simp only [push_cast,seval,reduceEqDiff])|intro _)
   all_goals subst hS
   all_goals (first|(refine finW_ret ?_;simp [get, *]<;>(intros;omega);done)|(refine finW_rets ?_;simp [push_cast,get, *];done)|skip)
def wT (p:Part):Bytes:=if p.kind == 1 then p.text else []
def wN (p:Part):Bytes:=if p.kind == 1 then [] else if p.kind == 10 then [] else if p.kind == 2 then p.name else if p.kind == 3||p.kind == 4||p.kind == 5||p.kind == 6 then p.name else []
def wS (p:Part):Bytes:=if p.kind == 1 then [] else if p.kind == 10 then [] else if p.kind == 2 then [] else if p.kind == 3||p.kind == 4||p.kind == 5||p.kind == 6 then p.style else []
def plainK (p:Part) (c:Bool):Bool:=
 if p.kind == 1 then !(p.text == []) else if p.kind == 10 then c else if p.kind == 2 then nameB p.name
 else if p.kind == 3||p.kind == 4||p.kind == 5||p.kind == 6 then nameB p.name&&(if p.kind == 3 then p.style == []||p.style == [105,110,116,101,103,101,114]||p.style == [112,101,114,99,101,110,116] else if p.kind == 5 then skeletonB p.style else nameB p.style)
 else false
def plainB (p:Part) (c:Bool):Bool:=plainK p c&&((p.cases.length:Int) == 0)&&((p.parts.length:Int) == 0)&&(p.text == wT p)&&(p.name == wN p)&&(p.style == wS p)
def numSt (s:Bytes):Bool:=s == []||s == [105,110,116,101,103,101,114]||s == [112,101,114,99,101,110,116]
def fieldsK (k:Int) (t nm st:Bytes) (c q:Int):Bool:=
 if k == 1 then !(t == [])&&(nm == []&&(st == []&&(c == 0&&q == 0)))
 else if k == 10 then t == []&&(nm == []&&(st == []&&(c == 0&&q == 0)))
 else nameB nm&&(t == []&&(
  if k == 2 then st == []&&(c == 0&&q == 0)
  else if k == 11 then st == []&&c == 0
  else if k == 7||k == 8||k == 9 then st == []&&q == 0
  else if k == 3 then numSt st&&(c == 0&&q == 0)
  else if k == 4||k == 6 then nameB st&&(c == 0&&q == 0)
  else if k == 5 then skeletonB st&&(c == 0&&q == 0)
  else false))
def Part.fieldsB (p:Part):Bool:=fieldsK p.kind p.text p.name p.style p.cases.length p.parts.length
theorem t_fields1 (t nm st:Bytes) (cs:List Case) (ps:List Part) (hn:nm.length<SLim) (hst:st.length<SLim):RetS Tryz.prog W0 152 [.agg [.i .i64 1,.s t,.s nm,.s st,.sl (cs.map Case.enc),.sl (ps.map Part.enc)]] [] (.b (fieldsK 1 t nm st cs.length ps.length)) []:=by
 generalize hS:fieldsK 1 t nm st cs.length ps.length=S
 unfold fieldsK numSt at hS
 simp only [Int.reduceBEq,bq,if_true,if_false] at hS
 have ht:(t == t)=true:=by simp
 have hnn:(nm == nm)=true:=by simp
 have hss:(st == st)=true:=by simp
 have s1:selB 1=false:=rfl
 refine fn_retW (vs:=[.b S]) f152ok (by simp) (by simp) fun n0 hn0=>?_
 clear hn0
 simp only [push_cast,seval,reduceEqDiff,ht,hnn,hss,s1,Int.reduceBEq,Int.reduceBNe]
 repeat' (first|(((first|apply condU_s|apply gdU_t|apply gdU_f)<;>intro _h)<;>simp only [push_cast,seval,reduceEqDiff,_h,ht,hnn,hss,s1,Int.reduceBEq,Int.reduceBNe])|(refine c_call (by exact c_sSel W0 1) ?_;simp only [push_cast,seval,reduceEqDiff,ht,hnn,hss,s1,Int.reduceBEq,Int.reduceBNe])|intro _)
 all_goals subst hS
 all_goals (refine finW_ret ?_;simp only [get_cons,if_true,if_false, *,bq,reduceEqDiff];done)
theorem t_fields10 (t nm st:Bytes) (cs:List Case) (ps:List Part) (hn:nm.length<SLim) (hst:st.length<SLim):RetS Tryz.prog W0 152 [.agg [.i .i64 10,.s t,.s nm,.s st,.sl (cs.map Case.enc),.sl (ps.map Part.enc)]] [] (.b (fieldsK 10 t nm st cs.length ps.length)) []:=by
 generalize hS:fieldsK 10 t nm st cs.length ps.length=S
 unfold fieldsK numSt at hS
 simp only [Int.reduceBEq,bq,if_true,if_false] at hS
 have ht:(t == t)=true:=by simp
 have hnn:(nm == nm)=true:=by simp
 have hss:(st == st)=true:=by simp
 have s1:selB 10=false:=rfl
 refine fn_retW (vs:=[.b S]) f152ok (by simp) (by simp) fun n0 hn0=>?_
 clear hn0
 simp only [push_cast,seval,reduceEqDiff,ht,hnn,hss,s1,Int.reduceBEq,Int.reduceBNe]
 repeat' (first|(((first|apply condU_s|apply gdU_t|apply gdU_f)<;>intro _h)<;>simp only [push_cast,seval,reduceEqDiff,_h,ht,hnn,hss,s1,Int.reduceBEq,Int.reduceBNe])|(refine c_call (by exact c_sSel W0 10) ?_;simp only [push_cast,seval,reduceEqDiff,ht,hnn,hss,s1,Int.reduceBEq,Int.reduceBNe])|intro _)
 all_goals subst hS
 all_goals (refine finW_ret ?_;simp only [get_cons,if_true,if_false, *,bq,reduceEqDiff];done)
theorem t_fields2 (t nm st:Bytes) (cs:List Case) (ps:List Part) (hn:nm.length<SLim) (hst:st.length<SLim):RetS Tryz.prog W0 152 [.agg [.i .i64 2,.s t,.s nm,.s st,.sl (cs.map Case.enc),.sl (ps.map Part.enc)]] [] (.b (fieldsK 2 t nm st cs.length ps.length)) []:=by
 generalize hS:fieldsK 2 t nm st cs.length ps.length=S
 unfold fieldsK numSt at hS
 simp only [Int.reduceBEq,bq,if_true,if_false] at hS
 have ht:(t == t)=true:=by simp
 have hnn:(nm == nm)=true:=by simp
 have hss:(st == st)=true:=by simp
 have s1:selB 2=false:=rfl
 have v1:=c_tName W0 nm hn
 generalize nameB nm=A1 at v1 hS
 refine fn_retW (vs:=[.b S]) f152ok (by simp) (by simp) fun n0 hn0=>?_
 clear hn0
 simp only [push_cast,seval,reduceEqDiff,ht,hnn,hss,s1,Int.reduceBEq,Int.reduceBNe]
 repeat' (first|(((first|apply condU_s|apply gdU_t|apply gdU_f)<;>intro _h)<;>simp only [push_cast,seval,reduceEqDiff,_h,ht,hnn,hss,s1,Int.reduceBEq,Int.reduceBNe])|((first|refine c_call (by exact c_sSel W0 2) ?_|refine c_call (by exact v1) ?_);simp only [push_cast,seval,reduceEqDiff,ht,hnn,hss,s1,Int.reduceBEq,Int.reduceBNe])|intro _)
 all_goals subst hS
 all_goals (refine finW_ret ?_;simp only [get_cons,if_true,if_false, *,bq,reduceEqDiff];done)
theorem t_fields11 (t nm st:Bytes) (cs:List Case) (ps:List Part) (hn:nm.length<SLim) (hst:st.length<SLim):RetS Tryz.prog W0 152 [.agg [.i .i64 11,.s t,.s nm,.s st,.sl (cs.map Case.enc),.sl (ps.map Part.enc)]] [] (.b (fieldsK 11 t nm st cs.length ps.length)) []:=by
 generalize hS:fieldsK 11 t nm st cs.length ps.length=S
 unfold fieldsK numSt at hS
 simp only [Int.reduceBEq,bq,if_true,if_false] at hS
 have ht:(t == t)=true:=by simp
 have hnn:(nm == nm)=true:=by simp
 have hss:(st == st)=true:=by simp
 have s1:selB 11=false:=rfl
 have v1:=c_tName W0 nm hn
 generalize nameB nm=A1 at v1 hS
 refine fn_retW (vs:=[.b S]) f152ok (by simp) (by simp) fun n0 hn0=>?_
 clear hn0
 simp only [push_cast,seval,reduceEqDiff,ht,hnn,hss,s1,Int.reduceBEq,Int.reduceBNe]
 repeat' (first|(((first|apply condU_s|apply gdU_t|apply gdU_f)<;>intro _h)<;>simp only [push_cast,seval,reduceEqDiff,_h,ht,hnn,hss,s1,Int.reduceBEq,Int.reduceBNe])|((first|refine c_call (by exact c_sSel W0 11) ?_|refine c_call (by exact v1) ?_);simp only [push_cast,seval,reduceEqDiff,ht,hnn,hss,s1,Int.reduceBEq,Int.reduceBNe])|intro _)
 all_goals subst hS
 all_goals (refine finW_ret ?_;simp only [get_cons,if_true,if_false, *,bq,reduceEqDiff];done)
theorem t_fields7 (t nm st:Bytes) (cs:List Case) (ps:List Part) (hn:nm.length<SLim) (hst:st.length<SLim):RetS Tryz.prog W0 152 [.agg [.i .i64 7,.s t,.s nm,.s st,.sl (cs.map Case.enc),.sl (ps.map Part.enc)]] [] (.b (fieldsK 7 t nm st cs.length ps.length)) []:=by
 generalize hS:fieldsK 7 t nm st cs.length ps.length=S
 unfold fieldsK numSt at hS
 simp only [Int.reduceBEq,bq,if_true,if_false] at hS
 have ht:(t == t)=true:=by simp
 have hnn:(nm == nm)=true:=by simp
 have hss:(st == st)=true:=by simp
 have s1:selB 7=true:=rfl
 have v1:=c_tName W0 nm hn
 generalize nameB nm=A1 at v1 hS
 refine fn_retW (vs:=[.b S]) f152ok (by simp) (by simp) fun n0 hn0=>?_
 clear hn0
 simp only [push_cast,seval,reduceEqDiff,ht,hnn,hss,s1,Int.reduceBEq,Int.reduceBNe]
 repeat' (first|(((first|apply condU_s|apply gdU_t|apply gdU_f)<;>intro _h)<;>simp only [push_cast,seval,reduceEqDiff,_h,ht,hnn,hss,s1,Int.reduceBEq,Int.reduceBNe])|((first|refine c_call (by exact c_sSel W0 7) ?_|refine c_call (by exact v1) ?_);simp only [push_cast,seval,reduceEqDiff,ht,hnn,hss,s1,Int.reduceBEq,Int.reduceBNe])|intro _)
 all_goals subst hS
 all_goals (refine finW_ret ?_;simp only [get_cons,if_true,if_false, *,bq,reduceEqDiff];done)
theorem t_fields8 (t nm st:Bytes) (cs:List Case) (ps:List Part) (hn:nm.length<SLim) (hst:st.length<SLim):RetS Tryz.prog W0 152 [.agg [.i .i64 8,.s t,.s nm,.s st,.sl (cs.map Case.enc),.sl (ps.map Part.enc)]] [] (.b (fieldsK 8 t nm st cs.length ps.length)) []:=by
 generalize hS:fieldsK 8 t nm st cs.length ps.length=S
 unfold fieldsK numSt at hS
 simp only [Int.reduceBEq,bq,if_true,if_false] at hS
 have ht:(t == t)=true:=by simp
 have hnn:(nm == nm)=true:=by simp
 have hss:(st == st)=true:=by simp
 have s1:selB 8=true:=rfl
 have v1:=c_tName W0 nm hn
 generalize nameB nm=A1 at v1 hS
 refine fn_retW (vs:=[.b S]) f152ok (by simp) (by simp) fun n0 hn0=>?_
 clear hn0
 simp only [push_cast,seval,reduceEqDiff,ht,hnn,hss,s1,Int.reduceBEq,Int.reduceBNe]
 repeat' (first|(((first|apply condU_s|apply gdU_t|apply gdU_f)<;>intro _h)<;>simp only [push_cast,seval,reduceEqDiff,_h,ht,hnn,hss,s1,Int.reduceBEq,Int.reduceBNe])|((first|refine c_call (by exact c_sSel W0 8) ?_|refine c_call (by exact v1) ?_);simp only [push_cast,seval,reduceEqDiff,ht,hnn,hss,s1,Int.reduceBEq,Int.reduceBNe])|intro _)
 all_goals subst hS
 all_goals (refine finW_ret ?_;simp only [get_cons,if_true,if_false, *,bq,reduceEqDiff];done)
theorem t_fields9 (t nm st:Bytes) (cs:List Case) (ps:List Part) (hn:nm.length<SLim) (hst:st.length<SLim):RetS Tryz.prog W0 152 [.agg [.i .i64 9,.s t,.s nm,.s st,.sl (cs.map Case.enc),.sl (ps.map Part.enc)]] [] (.b (fieldsK 9 t nm st cs.length ps.length)) []:=by
 generalize hS:fieldsK 9 t nm st cs.length ps.length=S
 unfold fieldsK numSt at hS
 simp only [Int.reduceBEq,bq,if_true,if_false] at hS
 have ht:(t == t)=true:=by simp
 have hnn:(nm == nm)=true:=by simp
 have hss:(st == st)=true:=by simp
 have s1:selB 9=true:=rfl
 have v1:=c_tName W0 nm hn
 generalize nameB nm=A1 at v1 hS
 refine fn_retW (vs:=[.b S]) f152ok (by simp) (by simp) fun n0 hn0=>?_
 clear hn0
 simp only [push_cast,seval,reduceEqDiff,ht,hnn,hss,s1,Int.reduceBEq,Int.reduceBNe]
 repeat' (first|(((first|apply condU_s|apply gdU_t|apply gdU_f)<;>intro _h)<;>simp only [push_cast,seval,reduceEqDiff,_h,ht,hnn,hss,s1,Int.reduceBEq,Int.reduceBNe])|((first|refine c_call (by exact c_sSel W0 9) ?_|refine c_call (by exact v1) ?_);simp only [push_cast,seval,reduceEqDiff,ht,hnn,hss,s1,Int.reduceBEq,Int.reduceBNe])|intro _)
 all_goals subst hS
 all_goals (refine finW_ret ?_;simp only [get_cons,if_true,if_false, *,bq,reduceEqDiff];done)
set_option maxHeartbeats 4000000 in
theorem t_fields3 (t nm st:Bytes) (cs:List Case) (ps:List Part) (hn:nm.length<SLim) (hst:st.length<SLim):RetS Tryz.prog W0 152 [.agg [.i .i64 3,.s t,.s nm,.s st,.sl (cs.map Case.enc),.sl (ps.map Part.enc)]] [] (.b (fieldsK 3 t nm st cs.length ps.length)) []:=by
 generalize hS:fieldsK 3 t nm st cs.length ps.length=S
 unfold fieldsK numSt at hS
 simp only [Int.reduceBEq,bq,if_true,if_false] at hS
 have ht:(t == t)=true:=by simp
 have hnn:(nm == nm)=true:=by simp
 have hss:(st == st)=true:=by simp
 have s1:selB 3=false:=rfl
 have v1:=c_tName W0 nm hn
 generalize nameB nm=A1 at v1 hS
 refine fn_retW (vs:=[.b S]) f152ok (by simp) (by simp) fun n0 hn0=>?_
 clear hn0
 simp only [push_cast,seval,reduceEqDiff,ht,hnn,hss,s1,Int.reduceBEq,Int.reduceBNe]
 repeat' (first|(((first|apply condU_s|apply gdU_t|apply gdU_f)<;>intro _h)<;>simp only [push_cast,seval,reduceEqDiff,_h,ht,hnn,hss,s1,Int.reduceBEq,Int.reduceBNe])|((first|refine c_call (by exact c_sSel W0 3) ?_|refine c_call (by exact v1) ?_);simp only [push_cast,seval,reduceEqDiff,ht,hnn,hss,s1,Int.reduceBEq,Int.reduceBNe])|intro _)
 all_goals subst hS
 all_goals (refine finW_ret ?_;simp only [get_cons,if_true,if_false, *,bq,reduceEqDiff];done)
theorem t_fields4 (t nm st:Bytes) (cs:List Case) (ps:List Part) (hn:nm.length<SLim) (hst:st.length<SLim):RetS Tryz.prog W0 152 [.agg [.i .i64 4,.s t,.s nm,.s st,.sl (cs.map Case.enc),.sl (ps.map Part.enc)]] [] (.b (fieldsK 4 t nm st cs.length ps.length)) []:=by
 generalize hS:fieldsK 4 t nm st cs.length ps.length=S
 unfold fieldsK numSt at hS
 simp only [Int.reduceBEq,bq,if_true,if_false] at hS
 have ht:(t == t)=true:=by simp
 have hnn:(nm == nm)=true:=by simp
 have hss:(st == st)=true:=by simp
 have s1:selB 4=false:=rfl
 have v1:=c_tName W0 nm hn
 generalize nameB nm=A1 at v1 hS
 have v2:=c_tName W0 st hst
 generalize nameB st=A2 at v2 hS
 refine fn_retW (vs:=[.b S]) f152ok (by simp) (by simp) fun n0 hn0=>?_
 clear hn0
 simp only [push_cast,seval,reduceEqDiff,ht,hnn,hss,s1,Int.reduceBEq,Int.reduceBNe]
 repeat' (first|(((first|apply condU_s|apply gdU_t|apply gdU_f)<;>intro _h)<;>simp only [push_cast,seval,reduceEqDiff,_h,ht,hnn,hss,s1,Int.reduceBEq,Int.reduceBNe])|((first|refine c_call (by exact c_sSel W0 4) ?_|refine c_call (by exact v1) ?_|refine c_call (by exact v2) ?_);simp only [push_cast,seval,reduceEqDiff,ht,hnn,hss,s1,Int.reduceBEq,Int.reduceBNe])|intro _)
 all_goals subst hS
 all_goals (refine finW_ret ?_;simp only [get_cons,if_true,if_false, *,bq,reduceEqDiff];done)
theorem t_fields6 (t nm st:Bytes) (cs:List Case) (ps:List Part) (hn:nm.length<SLim) (hst:st.length<SLim):RetS Tryz.prog W0 152 [.agg [.i .i64 6,.s t,.s nm,.s st,.sl (cs.map Case.enc),.sl (ps.map Part.enc)]] [] (.b (fieldsK 6 t nm st cs.length ps.length)) []:=by
 generalize hS:fieldsK 6 t nm st cs.length ps.length=S
 unfold fieldsK numSt at hS
 simp only [Int.reduceBEq,bq,if_true,if_false] at hS
 have ht:(t == t)=true:=by simp
 have hnn:(nm == nm)=true:=by simp
 have hss:(st == st)=true:=by simp
 have s1:selB 6=false:=rfl
 have v1:=c_tName W0 nm hn
 generalize nameB nm=A1 at v1 hS
 have v2:=c_tName W0 st hst
 generalize nameB st=A2 at v2 hS
 refine fn_retW (vs:=[.b S]) f152ok (by simp) (by simp) fun n0 hn0=>?_
 clear hn0
 simp only [push_cast,seval,reduceEqDiff,ht,hnn,hss,s1,Int.reduceBEq,Int.reduceBNe]
 repeat' (first|(((first|apply condU_s|apply gdU_t|apply gdU_f)<;>intro _h)<;>simp only [push_cast,seval,reduceEqDiff,_h,ht,hnn,hss,s1,Int.reduceBEq,Int.reduceBNe])|((first|refine c_call (by exact c_sSel W0 6) ?_|refine c_call (by exact v1) ?_|refine c_call (by exact v2) ?_);simp only [push_cast,seval,reduceEqDiff,ht,hnn,hss,s1,Int.reduceBEq,Int.reduceBNe])|intro _)
 all_goals subst hS
 all_goals (refine finW_ret ?_;simp only [get_cons,if_true,if_false, *,bq,reduceEqDiff];done)
theorem t_fields5 (t nm st:Bytes) (cs:List Case) (ps:List Part) (hn:nm.length<SLim) (hst:st.length<SLim):RetS Tryz.prog W0 152 [.agg [.i .i64 5,.s t,.s nm,.s st,.sl (cs.map Case.enc),.sl (ps.map Part.enc)]] [] (.b (fieldsK 5 t nm st cs.length ps.length)) []:=by
 generalize hS:fieldsK 5 t nm st cs.length ps.length=S
 unfold fieldsK numSt at hS
 simp only [Int.reduceBEq,bq,if_true,if_false] at hS
 have ht:(t == t)=true:=by simp
 have hnn:(nm == nm)=true:=by simp
 have hss:(st == st)=true:=by simp
 have s1:selB 5=false:=rfl
 have v1:=c_tName W0 nm hn
 generalize nameB nm=A1 at v1 hS
 have v3:=c_sSkeleton W0 st hst
 generalize skeletonB st=A3 at v3 hS
 refine fn_retW (vs:=[.b S]) f152ok (by simp) (by simp) fun n0 hn0=>?_
 clear hn0
 simp only [push_cast,seval,reduceEqDiff,ht,hnn,hss,s1,Int.reduceBEq,Int.reduceBNe]
 repeat' (first|(((first|apply condU_s|apply gdU_t|apply gdU_f)<;>intro _h)<;>simp only [push_cast,seval,reduceEqDiff,_h,ht,hnn,hss,s1,Int.reduceBEq,Int.reduceBNe])|((first|refine c_call (by exact c_sSel W0 5) ?_|refine c_call (by exact v1) ?_|refine c_call (by exact v3) ?_);simp only [push_cast,seval,reduceEqDiff,ht,hnn,hss,s1,Int.reduceBEq,Int.reduceBNe])|intro _)
 all_goals subst hS
 all_goals (refine finW_ret ?_;simp only [get_cons,if_true,if_false, *,bq,reduceEqDiff];done)
theorem t_fieldsO (k:Int) (t nm st:Bytes) (cs:List Case) (ps:List Part) (h1:(k == 1)=false) (h2:(k == 2)=false) (h3:(k == 3)=false) (h4:(k == 4)=false) (h5:(k == 5)=false) (h6:(k == 6)=false) (h7:(k == 7)=false) (h8:(k == 8)=false) (h9:(k == 9)=false) (h10:(k == 10)=false) (h11:(k == 11)=false):RetS Tryz.prog W0 152 [.agg [.i .i64 k,.s t,.s nm,.s st,.sl (cs.map Case.enc),.sl (ps.map Part.enc)]] [] (.b (fieldsK k t nm st cs.length ps.length)) []:=by
 generalize hS:fieldsK k t nm st cs.length ps.length=S
 unfold fieldsK at hS
 simp only [h1,h2,h3,h4,h5,h6,h7,h8,h9,h10,h11,Bool.or_false,Bool.false_eq_true,if_false,Bool.and_false] at hS
 subst hS
 have g1:(k != 1)=true:=by simp at h1⊢;exact h1
 have g2:(k != 10)=true:=by simp at h10⊢;exact h10
 refine fn_retW (vs:=[.b false]) f152ok (by simp) (by simp) fun n0 hn0=>?_
 clear hn0
 simp only [push_cast,seval,reduceEqDiff,h1,h2,h3,h4,h5,h6,h7,h8,h9,h10,h11,g1,g2]
 repeat' (first|(((first|apply condU_s|apply gdU_t|apply gdU_f)<;>intro _h)<;>simp only [push_cast,seval,reduceEqDiff,_h,h1,h2,h3,h4,h5,h6,h7,h8,h9,h10,h11,g1,g2])|intro _)
 all_goals (refine finW_ret ?_;simp only [get_cons,if_true,if_false, *,bq,reduceEqDiff];done)
theorem c_fields (p:Part) (hn:p.name.length<SLim) (hs:p.style.length<SLim):RetS Tryz.prog W0 152 [p.enc] [] (.b p.fieldsB) []:=by
 unfold Part.fieldsB
 obtain ⟨k,t,nm,st,cs,ps⟩:=p
 simp only at hn hs⊢
 rw [Part.enc_eq]
 simp only
 have hk:k=1\/k=2\/k=3\/k=4\/k=5\/k=6\/k=7\/k=8\/k=9\/k=10\/k=11\/((k == 1)=false/\(k == 2)=false/\(k == 3)=false/\(k == 4)=false/\(k == 5)=false/\(k == 6)=false/\(k == 7)=false/\(k == 8)=false/\(k == 9)=false/\(k == 10)=false/\(k == 11)=false):=by
  simp only [beq_eq_false_iff_ne]
  omega
 rcases hk with rfl|rfl|rfl|rfl|rfl|rfl|rfl|rfl|rfl|rfl|rfl|⟨h1,h2,h3,h4,h5,h6,h7,h8,h9,h10,h11⟩
 ·exact t_fields1 W0 t nm st cs ps hn hs
 ·exact t_fields2 W0 t nm st cs ps hn hs
 ·exact t_fields3 W0 t nm st cs ps hn hs
 ·exact t_fields4 W0 t nm st cs ps hn hs
 ·exact t_fields5 W0 t nm st cs ps hn hs
 ·exact t_fields6 W0 t nm st cs ps hn hs
 ·exact t_fields7 W0 t nm st cs ps hn hs
 ·exact t_fields8 W0 t nm st cs ps hn hs
 ·exact t_fields9 W0 t nm st cs ps hn hs
 ·exact t_fields10 W0 t nm st cs ps hn hs
 ·exact t_fields11 W0 t nm st cs ps hn hs
 ·exact t_fieldsO W0 k t nm st cs ps h1 h2 h3 h4 h5 h6 h7 h8 h9 h10 h11
end Go.Ir
section
namespace Go.Ir
open Go.Proofs
variable (W0 : World)
theorem StLe.frz {W0:World} {nt n n':Nat} {env env':Env} {σ:Sto} {id:Id} {e sz:Nat} {es:List V} (hn:lk σ id=none) (hok:∀y∈es,y.ok=true)
  (henv:∀s,get env' s=get env s\/(get env s = .arr id/\get env' s = .sl es)) (hle:n<=n'):StLe W0 nt ⟨env,(id,.arr e sz es)::σ,n⟩ ⟨env',σ,n'⟩:=by
 refine StLe.weak (fun i=>if i=id then some es else none) (fun i es' h=>?_) (fun s=>?_) (fun i e' h=>?_) hle
 ·split at h
  ·rename_i hi;subst hi;cases h
   exact ⟨⟨e,sz,by simp [lk]⟩,hn⟩
  ·cases h
 ·rcases henv s with h|⟨h1,h2⟩
  ·rw [h];exact .refl _
  ·rw [h1,h2]
   refine .arr id es es (by simp) rfl (fun k c c' h1 h2=>?_) (fun k c c' h1 h2=>?_)
   ·rw [h1] at h2;cases h2;exact .refl _
   ·rw [h1] at h2;cases h2
    have:=hok c (List.mem_of_getElem? h1)
    exact ⟨rfl,this,this⟩
 ·refine ⟨e',lk_drop1 hn i e' h,.refl _⟩
theorem StLe.envD {W0:World} {nt n n':Nat} {env env':Env} {σ:Sto} (henv:∀s,get env' s=get env s\/get env' s = .any) (hle:n<=n'):StLe W0 nt ⟨env,σ,n⟩ ⟨env',σ,n'⟩:=by
 refine StLe.weak (fun _=>none) (fun _ _ h=>by cases h) (fun s=>?_) (fun i e' h=>⟨e',h,.refl _⟩) hle
 rcases henv s with h|h
 ·rw [h];exact .refl _
 ·rw [h];exact .any _
def addN (k:Int) (n:Bytes) (l:List Bytes):List Bytes:=if decide (k>=2)&&decide (k<=9)&&!l.contains n then l++[n] else l
mutual
def Part.names:Part->List Bytes->List Bytes
 | ⟨k,_,n,_,cs,ps⟩,l=>namesCs cs (namesPs ps (addN k n l))
def namesPs:List Part->List Bytes->List Bytes
 | [],l=>l
 | p::ps,l=>namesPs ps (p.names l)
def namesCs:List (Bytes × List Part)->List Bytes->List Bytes
 | [],l=>l
 | (_,ps)::cs,l=>namesCs cs (namesPs ps l)
end
theorem Part.names_eq (p:Part) (l:List Bytes):p.names l=namesCs p.cases (namesPs p.parts (addN p.kind p.name l)):=by cases p;simp only [Part.names]
theorem namesPs_cons (p:Part) (ps:List Part) (l:List Bytes):namesPs (p::ps) l=namesPs ps (p.names l):=by simp only [namesPs]
theorem namesCs_cons (c:Case) (cs:List Case) (l:List Bytes):namesCs (c::cs) l=namesCs cs (namesPs c.2 l):=by obtain ⟨k,q⟩:=c;simp only [namesCs]
end Go.Ir
end
namespace Go.Ir
open Go.Proofs
variable {P : Program} {W0 : World} {nt n : Nat} {Q : Exit → St → Prop} {env : Env} {σ : Sto}
end Go.Ir
namespace Go.Ir
open Go.Proofs
variable (W0 : World)
def escB:Bytes->Bytes
 | []=>[]
 | c::s=>(if specB c.toNat then [92,c] else [c])++escB s
end Go.Ir
section
namespace Go.Ir
open Go.Proofs
variable (W0 : World)
def kOtherS:Bytes:=[111,116,104,101,114]
def selHead (d:Int) (nm t st:Bytes) (q c:Int):Bool:=!(decide (d>8)||!nameB nm||!(t == [])||!(st == [])||decide (q>0)||decide (c<1)||decide (c>20))
def elHead (d:Int) (nm t st:Bytes) (c:Int):Bool:=!(decide (d>8)||!nameB nm||!(t == [])||!(st == [])||decide (c>0))
mutual
def Part.formedB:Part->Int->Bool->Bool
 | ⟨k,t,nm,st,cs,ps⟩,d,c=>
  if k == 11 then elHead d nm t st cs.length&&formedPs ps (d+1) c false
  else if selB k then selHead d nm t st ps.length cs.length&&formedCs cs k d c []
  else plainB ⟨k,t,nm,st,cs,ps⟩ c
def formedPs:List Part->Int->Bool->Bool->Bool
 | [],_,_,_=>true
 | p::ps,d,c,prev=>!(p.kind == 1&&prev)&&(p.formedB d c&&formedPs ps d c (p.kind == 1))
def formedCs:List (Bytes × List Part)->Int->Int->Bool->List Bytes->Bool
 | [],_,_,_,keys=>keys.contains kOtherS
 | (key,ps)::cs,k,d,c,keys=>!(!keyB k key||keys.contains key)&&(formedPs ps (d+1) (c||cntB k) false&&formedCs cs k d c (keys++[key]))
end
theorem Part.formedB_eq (p:Part) (d:Int) (c:Bool):p.formedB d c=(if p.kind == 11 then elHead d p.name p.text p.style p.cases.length&&formedPs p.parts (d+1) c false else if selB p.kind then selHead d p.name p.text p.style p.parts.length p.cases.length&&formedCs p.cases p.kind d c [] else plainB p c):=by
 cases p;simp only [Part.formedB]
theorem formedPs_cons (p:Part) (ps:List Part) (d:Int) (c prev:Bool):formedPs (p::ps) d c prev=(!(p.kind == 1&&prev)&&(p.formedB d c&&formedPs ps d c (p.kind == 1))):=by simp only [formedPs]
theorem formedCs_cons (x:Case) (cs:List Case) (k d:Int) (c:Bool) (keys:List Bytes):formedCs (x::cs) k d c keys=(!(!keyB k x.1||keys.contains x.1)&&(formedPs x.2 (d+1) (c||cntB k) false&&formedCs cs k d c (keys++[x.1]))):=by obtain ⟨a,b⟩:=x;simp only [formedCs]
def lastT (done:List Part):Bool:=match done.getLast? with
 | some q=>q.kind == 1
 | none=>false
end Go.Ir
end
section
namespace Go.Ir
open Go.Proofs
variable (W0 : World)
def useW (k:Int):Bytes:=
 if k == 3 then [110,117,109,98,101,114] else if k == 4 then [117,110,105,116] else if k == 5 then [100,97,116,101] else if k == 6 then [108,105,115,116]
 else if k == 7 then [112,108,117,114,97,108] else if k == 8 then [111,114,100,105,110,97,108] else [115,101,108,101,99,116]
theorem useW_len (k:Int):(useW k).length<=7:=by
 unfold useW;repeat' split
 all_goals simp
theorem escB_len (s:Bytes):(escB s).length<=2*s.length:=by
 induction s with
 | nil=>simp [escB]
 | cons c s ih=>rw [escB];split<;>simp<;>omega
def useH (p:Part):Bytes:=[123]++p.name++[44]++[32]++useW p.kind
def useS (p:Part):Bytes:=if p.style == [] then [] else [44]++[32]++p.style
def useC (p:Part):Bytes:=if selB p.kind then [44] else []
mutual
def Part.textB:Part->Bytes
 | ⟨k,t,nm,st,cs,ps⟩=>
  if k == 1 then escB t
  else if k == 10 then [35]
  else if k == 11 then (if ps.isEmpty then [60]++nm++[47,62] else [60]++nm++[62]++textPs ps++[60,47]++nm++[62])
  else if k == 2 then [123]++nm++[125]
  else if decide (k>=3)&&decide (k<=9) then useH ⟨k,t,nm,st,cs,ps⟩++useS ⟨k,t,nm,st,cs,ps⟩++useC ⟨k,t,nm,st,cs,ps⟩++textCs cs++[125]
  else []
def textPs:List Part->Bytes
 | []=>[]
 | p::ps=>p.textB++textPs ps
def textCs:List (Bytes × List Part)->Bytes
 | []=>[]
 | (key,ps)::cs=>[32]++key++[32]++[123]++textPs ps++[125]++textCs cs
end
theorem Part.textB_eq (p:Part):p.textB=(if p.kind == 1 then escB p.text
  else if p.kind == 10 then [35]
  else if p.kind == 11 then (if p.parts.isEmpty then [60]++p.name++[47,62] else [60]++p.name++[62]++textPs p.parts++[60,47]++p.name++[62])
  else if p.kind == 2 then [123]++p.name++[125]
  else if decide (p.kind>=3)&&decide (p.kind<=9) then useH p++useS p++useC p++textCs p.cases++[125]
  else []):=by cases p;simp only [Part.textB]
theorem textPs_cons (p:Part) (ps:List Part):textPs (p::ps)=p.textB++textPs ps:=by simp only [textPs]
theorem textCs_cons (c:Case) (cs:List Case):textCs (c::cs)=[32]++c.1++[32]++[123]++textPs c.2++[125]++textCs cs:=by obtain ⟨k,q⟩:=c;simp only [textCs]
end Go.Ir
end
namespace Go.Ir
open Go.Proofs
variable {P : Program} {W0 : World} {nt n : Nat} {Q : Exit → St → Prop} {env : Env} {σ : Sto}
def f153_23:IC:=.ops [m1 46 9,o1 47 (.faddr (.t 11) 0),o1 48 (.load (.t 47) 1 false),o0 (.wrm (.mput .str) (.t 46) [.t 48,(.c (.b true))])] [2,3,4,5,9,14,15,16] []
def f153_17:IC:=.seq (.seq (.ops [o1 20 (.faddr (.t 5) 0),o1 21 (.load (.t 20) 1 false),o1 22 (.faddr (.t 11) 0),o1 23 (.load (.t 22) 1 false),o1 24 (.call 185 [.t 21,.t 23]),o1 25 (.not (.t 24)),m1 26 25,⟨some 27,.mv (.t 9),some (26,false),[]⟩,⟨some 28,.faddr (.t 11) 0,some (26,false),[]⟩,⟨some 29,.load (.t 28) 1 false,some (26,false),[]⟩,⟨some 30,.rdm (.mget .str (.b false) false) (.t 27) [.t 29],some (26,false),[]⟩,o1 31 (.pick (.t 26) (.c (.b true)) (.t 30)),m1 32 31,⟨some 33,.load (.t 4) 1 true,some (32,false),[]⟩,⟨some 34,.faddr (.t 11) 1,some (32,false),[]⟩,⟨some 35,.load (.t 34) 1 false,some (32,false),[]⟩,⟨some 36,.mv (.t 2),some (32,false),[]⟩,⟨some 37,.mv (.t 3),some (32,false),[]⟩,⟨some 38,.mv (.t 37),some (32,false),[]⟩,⟨some 39,.faddr (.t 5) 0,some (38,false),[]⟩,⟨some 40,.load (.t 39) 1 false,some (38,false),[]⟩,⟨some 41,.bin .neq (.t 40) (ci 9),some (38,false),[]⟩,⟨some 42,.pick (.t 38) (.c (.b true)) (.t 41),some (32,false),[]⟩,⟨some 43,.calls 119 [.t 33,.t 35,.t 36,.t 42],some (32,false),[]⟩,⟨some 44,.not (.t 43),some (32,false),[]⟩,o1 45 (.pick (.t 32) (.c (.b true)) (.t 44))] [2,3,4,5,9,11,14,15,16,45] []) (.cond (.t 45) (.seq (.ops [o1 8 (.mv (.c (.b false)))] [8] []) .ret) .skip)) f153_23
def f153_13:IC:=.seq (.block 1 (.seq (.ops [o1 18 (.iaddr (.t 14) (.t 16) 78 2),o1 19 (.load (.t 18) 2 true),o1 11 (.alloc (.agg [(.s []),.nil])),o0 (.store (.t 11) (.t 19) 2)] [2,3,4,5,9,11,14,15,16] []) f153_17)) (.ops [o1 49 (.bin .add (.t 16) (ci 1)),m1 16 49] [2,3,4,5,9,14,15,16] [])
def f153_9:IC:=.seq (.ops [o1 17 (.bin .lss (.t 16) (.t 15))] [2,3,4,5,9,14,15,16,17] []) (.seq (.cond (.t 17) .skip (.exit 0)) f153_13)
def f153_25:IC:=.seq (.ops [o1 50 (.faddr (.t 5) 4),o1 51 (.load (.t 50) 1 false),o1 52 (.lenL (.t 51)),o1 53 (.bin .leq (.t 52) (ci 20)),m1 54 53,⟨some 55,.mv (.t 9),some (54,true),[]⟩,⟨some 56,.rdm (.mget .str (.b false) false) (.t 55) [(.c (.s [111,116,104,101,114]))],some (54,true),[]⟩,o1 57 (.pick (.t 54) (.t 56) (.c (.b false))),m1 8 57] [8] []) .ret
def f153_4:IC:=.seq (.seq (.ops [o1 13 (.faddr (.t 5) 4),o1 14 (.load (.t 13) 1 false),o1 15 (.lenL (.t 14)),o1 16 (.mv (ci 0))] [2,3,4,5,9,14,15,16] []) (.block 0 (.loop f153_9))) f153_25
def f153_0:IC:=.seq (.ops [o1 4 (.box (.t 0)),o1 5 (.box (.t 1)),o1 8 (.mv (.c (.b false)))] [2,3,4,5] []) (.seq (.ops [o1 12 (.mkm .mkmap []),m1 9 12] [2,3,4,5,9] []) f153_4)
@[push_cast]def f153R:List R:=[.t 8]
@[push_cast]def f153e:=aWv f153_23.eq_1<|aWv f153_17.eq_1<|aWv f153_13.eq_1<|aWv f153_9.eq_1<|aWv f153_25.eq_1<|aWv f153_4.eq_1<|aWu f153_0.eq_1
theorem f153ok:okFn Tryz.prog 153 58 f153_0 f153R=true:=by kernel_rfl
def f119_36:IC:=.ops [o1 89 (.faddr (.t 4) 0),o1 90 (.load (.t 89) 1 false),o1 91 (.faddr (.t 10) 2),o1 92 (.load (.t 91) 1 false),o0 (.wrm (.mput .str) (.t 90) [.t 92,(.c (.b true))])] [1,2,3,4,11,12,13] []
def f119_33:IC:=.seq (.ops [o1 81 (.faddr (.t 10) 0),o1 82 (.load (.t 81) 1 false),o1 83 (.bin .neq (.t 82) (ci 11)),m1 84 83,⟨some 85,.faddr (.t 10) 2,some (84,true),[]⟩,⟨some 86,.load (.t 85) 1 false,some (84,true),[]⟩,⟨some 87,.bin .neq (.t 86) (.c (.s [])),some (84,true),[]⟩,o1 88 (.pick (.t 84) (.t 87) (.c (.b false)))] [1,2,3,4,10,11,12,13,88] []) (.cond (.t 88) f119_36 .skip)
def f119_27:IC:=.seq (.seq (.ops [o1 65 (.faddr (.t 10) 0),o1 66 (.load (.t 65) 1 false),o1 67 (.call 76 [.t 66]),m1 68 67,⟨some 69,.mv (.t 2),some (68,true),[]⟩,⟨some 70,.bin .geq (.t 69) (ci 8),some (68,true),[]⟩,⟨some 71,.mv (.t 70),some (68,true),[]⟩,⟨some 72,.load (.t 4) 1 true,some (71,false),[]⟩,⟨some 73,.load (.t 10) 6 true,some (71,false),[]⟩,⟨some 74,.mv (.t 2),some (71,false),[]⟩,⟨some 75,.bin .add (.t 74) (ci 1),some (71,false),[]⟩,⟨some 76,.mv (.t 3),some (71,false),[]⟩,⟨some 77,.calls 153 [.t 72,.t 73,.t 75,.t 76],some (71,false),[]⟩,⟨some 78,.not (.t 77),some (71,false),[]⟩,⟨some 79,.pick (.t 71) (.c (.b true)) (.t 78),some (68,true),[]⟩,o1 80 (.pick (.t 68) (.t 79) (.c (.b false)))] [1,2,3,4,10,11,12,13,80] []) (.cond (.t 80) (.seq (.ops [o1 8 (.mv (.c (.b false)))] [8] []) .ret) .skip)) f119_33
def f119_21:IC:=.seq (.seq (.ops [o1 48 (.faddr (.t 10) 0),o1 49 (.load (.t 48) 1 false),o1 50 (.bin .eql (.t 49) (ci 11)),m1 51 50,⟨some 52,.mv (.t 2),some (51,true),[]⟩,⟨some 53,.bin .geq (.t 52) (ci 8),some (51,true),[]⟩,⟨some 54,.mv (.t 53),some (51,true),[]⟩,⟨some 55,.load (.t 4) 1 true,some (54,false),[]⟩,⟨some 56,.faddr (.t 10) 5,some (54,false),[]⟩,⟨some 57,.load (.t 56) 1 false,some (54,false),[]⟩,⟨some 58,.mv (.t 2),some (54,false),[]⟩,⟨some 59,.bin .add (.t 58) (ci 1),some (54,false),[]⟩,⟨some 60,.mv (.t 3),some (54,false),[]⟩,⟨some 61,.calls 119 [.t 55,.t 57,.t 59,.t 60],some (54,false),[]⟩,⟨some 62,.not (.t 61),some (54,false),[]⟩,⟨some 63,.pick (.t 54) (.c (.b true)) (.t 62),some (51,true),[]⟩,o1 64 (.pick (.t 51) (.t 63) (.c (.b false)))] [1,2,3,4,10,11,12,13,64] []) (.cond (.t 64) (.seq (.ops [o1 8 (.mv (.c (.b false)))] [8] []) .ret) .skip)) f119_27
def f119_15:IC:=.seq (.seq (.ops [o1 18 (.load (.t 10) 6 true),o1 19 (.call 152 [.t 18]),o1 20 (.not (.t 19)),m1 21 20,⟨some 22,.faddr (.t 10) 0,some (21,false),[]⟩,⟨some 23,.load (.t 22) 1 false,some (21,false),[]⟩,⟨some 24,.bin .eql (.t 23) (ci 10),some (21,false),[]⟩,⟨some 25,.mv (.t 24),some (21,false),[]⟩,⟨some 26,.mv (.t 3),some (25,true),[]⟩,⟨some 27,.not (.t 26),some (25,true),[]⟩,⟨some 28,.pick (.t 25) (.t 27) (.c (.b false)),some (21,false),[]⟩,o1 29 (.pick (.t 21) (.c (.b true)) (.t 28)),m1 30 29,⟨some 31,.mv (.t 9),some (30,false),[]⟩,⟨some 32,.bin .gtr (.t 31) (ci 0),some (30,false),[]⟩,⟨some 33,.mv (.t 32),some (30,false),[]⟩,⟨some 34,.faddr (.t 10) 0,some (33,true),[]⟩,⟨some 35,.load (.t 34) 1 false,some (33,true),[]⟩,⟨some 36,.bin .eql (.t 35) (ci 1),some (33,true),[]⟩,⟨some 37,.pick (.t 33) (.t 36) (.c (.b false)),some (30,false),[]⟩,⟨some 38,.mv (.t 37),some (30,false),[]⟩,⟨some 39,.mv (.t 1),some (38,true),[]⟩,⟨some 40,.mv (.t 9),some (38,true),[]⟩,⟨some 41,.bin .sub (.t 40) (ci 1),some (38,true),[]⟩,⟨some 42,.iaddr (.t 39) (.t 41) 43 6,some (38,true),[]⟩,⟨some 43,.faddr (.t 42) 0,some (38,true),[]⟩,⟨some 44,.load (.t 43) 1 false,some (38,true),[]⟩,⟨some 45,.bin .eql (.t 44) (ci 1),some (38,true),[]⟩,⟨some 46,.pick (.t 38) (.t 45) (.c (.b false)),some (30,false),[]⟩,o1 47 (.pick (.t 30) (.c (.b true)) (.t 46))] [1,2,3,4,10,11,12,13,47] []) (.cond (.t 47) (.seq (.ops [o1 8 (.mv (.c (.b false)))] [8] []) .ret) .skip)) f119_21
def f119_11:IC:=.seq (.block 1 (.seq (.ops [m1 15 13,o1 16 (.iaddr (.t 11) (.t 13) 43 6),o1 17 (.load (.t 16) 6 true),o1 10 (.alloc (.agg [(.i .i64 0),(.s []),(.s []),(.s []),.nil,.nil])),m1 9 15,o0 (.store (.t 10) (.t 17) 6)] [1,2,3,4,9,10,11,12,13] []) f119_15)) (.ops [o1 93 (.bin .add (.t 13) (ci 1)),m1 13 93] [1,2,3,4,11,12,13] [])
def f119_7:IC:=.seq (.ops [o1 14 (.bin .lss (.t 13) (.t 12))] [1,2,3,4,11,12,13,14] []) (.seq (.cond (.t 14) .skip (.exit 0)) f119_11)
def f119_2:IC:=.seq (.seq (.ops [m1 11 1,o1 12 (.lenL (.t 11)),o1 13 (.mv (ci 0))] [1,2,3,4,11,12,13] []) (.block 0 (.loop f119_7))) (.seq (.ops [o1 8 (.mv (.c (.b true)))] [8] []) .ret)
def f119_0:IC:=.seq (.ops [o1 4 (.box (.t 0)),o1 8 (.mv (.c (.b false)))] [1,2,3,4] []) f119_2
@[push_cast]def f119R:List R:=[.t 8]
@[push_cast]def f119e:=aWv f119_36.eq_1<|aWv f119_33.eq_1<|aWv f119_27.eq_1<|aWv f119_21.eq_1<|aWv f119_15.eq_1<|aWv f119_11.eq_1<|aWv f119_7.eq_1<|aWv f119_2.eq_1<|aWu f119_0.eq_1
theorem f119ok:okFn Tryz.prog 119 94 f119_0 f119R=true:=by kernel_rfl
def f155_2:IC:=.seq (.ops [o1 1 (.mkm .mkmap []),o0 (.wrm (.mput .str) (.t 1) [(.c (.s [110,117,109,98,101,114])),(ci 3)]),o0 (.wrm (.mput .str) (.t 1) [(.c (.s [117,110,105,116])),(ci 4)]),o0 (.wrm (.mput .str) (.t 1) [(.c (.s [100,97,116,101])),(ci 5)]),o0 (.wrm (.mput .str) (.t 1) [(.c (.s [108,105,115,116])),(ci 6)]),o0 (.wrm (.mput .str) (.t 1) [(.c (.s [112,108,117,114,97,108])),(ci 7)]),o0 (.wrm (.mput .str) (.t 1) [(.c (.s [111,114,100,105,110,97,108])),(ci 8)]),o0 (.wrm (.mput .str) (.t 1) [(.c (.s [115,101,108,101,99,116])),(ci 9)]),m1 2 1,m1 0 2] [0] []) .ret
def f155_0:IC:=.seq (.ops [o1 0 (.mv (.c .nm))] [] []) f155_2
@[push_cast]def f155R:List R:=[.t 0]
@[push_cast]def f155e:=aWv f155_2.eq_1<|aWu f155_0.eq_1
theorem f155ok:okFn Tryz.prog 155 3 f155_0 f155R=true:=by kernel_rfl
def f120_23:IC:=.ops [m1 74 3,o1 75 (.faddr (.t 5) 1),o1 76 (.load (.t 75) 1 false),o1 77 (.call 154 [.t 76]),o1 78 (.lenS (.t 77)),o1 79 (.bin .add (.t 74) (.t 78)),m1 3 79] [3,10,11,12] []
def f120_36:IC:=.ops [m1 96 3,o1 97 (.faddr (.t 5) 2),o1 98 (.load (.t 97) 1 false),o1 99 (.lenS (.t 98)),o1 100 (.bin .add (ci 2) (.t 99)),o1 101 (.faddr (.t 5) 5),o1 102 (.load (.t 101) 1 false),o1 103 (.call 120 [.t 102]),o1 104 (.bin .add (.t 100) (.t 103)),o1 105 (.bin .add (.t 96) (.t 104)),m1 3 105] [3,10,11,12] [[1,2],[2,3],[3,4],[5,6],[6,7],[4,8],[7,8],[0,9],[8,9],[0,10],[9,10]]
def f120_33:IC:=.seq (.ops [o1 92 (.faddr (.t 5) 5),o1 93 (.load (.t 92) 1 false),o1 94 (.lenL (.t 93)),o1 95 (.bin .gtr (.t 94) (ci 0))] [3,5,10,11,12,95] []) (.cond (.t 95) f120_36 .skip)
def f120_31:IC:=.seq (.ops [m1 86 3,o1 87 (.faddr (.t 5) 2),o1 88 (.load (.t 87) 1 false),o1 89 (.lenS (.t 88)),o1 90 (.bin .add (ci 3) (.t 89)),o1 91 (.bin .add (.t 86) (.t 90)),m1 3 91] [3,5,10,11,12] []) f120_33
def f120_54:IC:=.ops [m1 35 3,m1 36 6,o1 37 (.lenS (.t 36)),o1 38 (.bin .add (ci 2) (.t 37)),o1 39 (.bin .add (.t 35) (.t 38)),m1 3 39] [3,5,10,11,12,25] []
def f120_51:IC:=.seq (.ops [m1 31 7,o1 32 (.faddr (.t 5) 0),o1 33 (.load (.t 32) 1 false),o1 34 (.bin .eql (.t 31) (.t 33))] [3,5,6,10,11,12,25,34] []) (.cond (.t 34) f120_54 .skip)
def f120_48:IC:=.block 4 (.seq (.ops [o1 28 (.mentry (.t 25)),o1 29 (.ext (.t 28) 0),o1 30 (.ext (.t 28) 1),m1 6 29,m1 7 30] [3,5,6,7,10,11,12,25] []) f120_51)
def f120_44:IC:=.seq (.mnext 26 27 (.t 25) [3,5,10,11,12,25,27]) (.seq (.cond (.t 27) .skip (.exit 3)) f120_48)
def f120_59:IC:=.ops [m1 43 3,o1 44 (.faddr (.t 5) 3),o1 45 (.load (.t 44) 1 false),o1 46 (.lenS (.t 45)),o1 47 (.bin .add (ci 2) (.t 46)),o1 48 (.bin .add (.t 43) (.t 47)),m1 3 48] [3,5,10,11,12] []
def f120_63:IC:=.cond (.t 51) (.ops [m1 52 3,o1 53 (.bin .add (.t 52) (ci 1)),m1 3 53] [3,5,10,11,12] []) .skip
def f120_77:IC:=.ops [m1 61 3,o1 62 (.faddr (.t 9) 0),o1 63 (.load (.t 62) 1 false),o1 64 (.lenS (.t 63)),o1 65 (.bin .add (ci 4) (.t 64)),o1 66 (.faddr (.t 9) 1),o1 67 (.load (.t 66) 1 false),o1 68 (.call 120 [.t 67]),o1 69 (.bin .add (.t 65) (.t 68)),o1 70 (.bin .add (.t 61) (.t 69)),m1 3 70] [3,10,11,12,55,56,57] [[1,2],[2,3],[3,4],[5,6],[6,7],[4,8],[7,8],[0,9],[8,9],[0,10],[9,10]]
def f120_73:IC:=.seq (.block 6 (.seq (.ops [o1 59 (.iaddr (.t 55) (.t 57) 78 2),o1 60 (.load (.t 59) 2 true),o1 9 (.alloc (.agg [(.s []),.nil])),o0 (.store (.t 9) (.t 60) 2)] [3,9,10,11,12,55,56,57] []) f120_77)) (.ops [o1 71 (.bin .add (.t 57) (ci 1)),m1 57 71] [3,10,11,12,55,56,57] [])
def f120_69:IC:=.seq (.ops [o1 58 (.bin .lss (.t 57) (.t 56))] [3,10,11,12,55,56,57,58] []) (.seq (.cond (.t 58) .skip (.exit 5)) f120_73)
def f120_65:IC:=.seq (.ops [o1 54 (.faddr (.t 5) 4),o1 55 (.load (.t 54) 1 false),o1 56 (.lenL (.t 55)),o1 57 (.mv (ci 0))] [3,10,11,12,55,56,57] []) (.block 5 (.loop f120_69))
def f120_60:IC:=.seq (.seq (.ops [o1 49 (.faddr (.t 5) 0),o1 50 (.load (.t 49) 1 false),o1 51 (.call 76 [.t 50])] [3,5,10,11,12,51] []) f120_63) f120_65
def f120_55:IC:=.seq (.seq (.ops [o1 40 (.faddr (.t 5) 3),o1 41 (.load (.t 40) 1 false),o1 42 (.bin .neq (.t 41) (.c (.s [])))] [3,5,10,11,12,42] []) (.cond (.t 42) f120_59 .skip)) f120_60
def f120_39:IC:=.seq (.seq (.ops [o1 24 (.calln 155 []),o1 25 (.mrange (.t 24))] [3,5,10,11,12,25] []) (.block 3 (.loop f120_44))) f120_55
def f120_37:IC:=.seq (.ops [m1 18 3,o1 19 (.faddr (.t 5) 2),o1 20 (.load (.t 19) 1 false),o1 21 (.lenS (.t 20)),o1 22 (.bin .add (ci 2) (.t 21)),o1 23 (.bin .add (.t 18) (.t 22)),m1 3 23] [3,5,10,11,12] []) f120_39
def f120_28:IC:=.seq (.ops [o1 85 (.bin .eql (.t 17) (ci 11)),m1 84 85] [3,5,10,11,12,84] []) (.cond (.t 84) f120_31 f120_37)
def f120_26:IC:=.cond (.t 80) (.ops [m1 82 3,o1 83 (.bin .add (.t 82) (ci 1)),m1 3 83] [3,10,11,12] []) f120_28
def f120_22:IC:=.cond (.t 72) f120_23 (.seq (.ops [o1 81 (.bin .eql (.t 17) (ci 10)),m1 80 81] [3,5,10,11,12,17,80] []) f120_26)
def f120_19:IC:=.block 2 (.seq (.ops [o1 73 (.bin .eql (.t 17) (ci 1)),m1 72 73] [3,5,10,11,12,17,72] []) f120_22)
def f120_17:IC:=.seq (.ops [o1 16 (.faddr (.t 5) 0),o1 17 (.load (.t 16) 1 false)] [3,5,10,11,12,17] []) f120_19
def f120_13:IC:=.seq (.block 1 (.seq (.ops [o1 14 (.iaddr (.t 10) (.t 12) 43 6),o1 15 (.load (.t 14) 6 true),o1 5 (.alloc (.agg [(.i .i64 0),(.s []),(.s []),(.s []),.nil,.nil])),o0 (.store (.t 5) (.t 15) 6)] [3,5,10,11,12] []) f120_17)) (.ops [o1 106 (.bin .add (.t 12) (ci 1)),m1 12 106] [3,10,11,12] [])
def f120_9:IC:=.seq (.ops [o1 13 (.bin .lss (.t 12) (.t 11))] [3,10,11,12,13] []) (.seq (.cond (.t 13) .skip (.exit 0)) f120_13)
def f120_4:IC:=.seq (.seq (.ops [m1 10 0,o1 11 (.lenL (.t 10)),o1 12 (.mv (ci 0))] [3,10,11,12] []) (.block 0 (.loop f120_9))) (.seq (.ops [m1 107 3,m1 2 107] [2] []) .ret)
def f120_0:IC:=.seq (.ops [o1 2 (.mv (ci 0))] [0] []) (.seq (.ops [o1 3 (.mv (ci 0))] [0,3] []) f120_4)
@[push_cast]def f120R:List R:=[.t 2]
@[push_cast]def f120e:=aWv f120_23.eq_1<|aWv f120_36.eq_1<|aWv f120_33.eq_1<|aWv f120_31.eq_1<|aWv f120_54.eq_1<|aWv f120_51.eq_1<|aWv f120_48.eq_1<|aWv f120_44.eq_1<|aWv f120_59.eq_1<|aWv f120_63.eq_1<|aWv f120_77.eq_1<|aWv f120_73.eq_1<|aWv f120_69.eq_1<|aWv f120_65.eq_1<|aWv f120_60.eq_1<|aWv f120_55.eq_1<|aWv f120_39.eq_1<|aWv f120_37.eq_1<|aWv f120_28.eq_1<|aWv f120_26.eq_1<|aWv f120_22.eq_1<|aWv f120_19.eq_1<|aWv f120_17.eq_1<|aWv f120_13.eq_1<|aWv f120_9.eq_1<|aWv f120_4.eq_1<|aWu f120_0.eq_1
theorem f120ok:okFn Tryz.prog 120 108 f120_0 f120R=true:=by kernel_rfl
def f77_4:IC:=.seq (.ops [o1 8 (.load (.t 5) 1 true),m1 9 0,m1 10 1,o1 11 (.calls 119 [.t 8,.t 9,(ci 0),.t 10]),m1 12 11,⟨some 13,.faddr (.t 5) 0,some (12,true),[]⟩,⟨some 14,.load (.t 13) 1 false,some (12,true),[]⟩,⟨some 15,.rdm .mlen (.t 14) [],some (12,true),[]⟩,⟨some 16,.bin .leq (.t 15) (ci 20),some (12,true),[]⟩,o1 17 (.pick (.t 12) (.t 16) (.c (.b false))),m1 18 17,⟨some 19,.mv (.t 0),some (18,true),[]⟩,⟨some 20,.call 120 [.t 19],some (18,true),[]⟩,⟨some 21,.bin .leq (.t 20) (ci 4000),some (18,true),[]⟩,o1 22 (.pick (.t 18) (.t 21) (.c (.b false))),m1 4 22] [4] []) .ret
def f77_2:IC:=.seq (.ops [o1 6 (.mkm .mkmap []),o1 7 (.build [.nm] [(0,1,(.t 6))]),o1 5 (.alloc (.agg [.nm])),o0 (.store (.t 5) (.t 7) 1)] [0,1,5] []) f77_4
def f77_0:IC:=.seq (.ops [o1 4 (.mv (.c (.b false)))] [0,1] []) f77_2
@[push_cast]def f77R:List R:=[.t 4]
@[push_cast]def f77e:=aWv f77_4.eq_1<|aWv f77_2.eq_1<|aWu f77_0.eq_1
theorem f77ok:okFn Tryz.prog 77 23 f77_0 f77R=true:=by kernel_rfl
def f37_0:IC:=.seq (.ops [o1 2 (.mv (.c (.b false)))] [0] []) (.seq (.ops [m1 3 0,o1 4 (.call 77 [.t 3,(.c (.b false))]),m1 2 4] [2] []) .ret)
@[push_cast]def f37R:List R:=[.t 2]
@[push_cast]def f37e:=aWu f37_0.eq_1
theorem f37ok:okFn Tryz.prog 37 5 f37_0 f37R=true:=by kernel_rfl
end Go.Ir
namespace Go.Proofs
open Go.Shelf
def Tryz.lays169_ren:Go.Shelf.Ren:=⟨fun|169=>188|n=>n,fun|70=>241|9=>9|0=>0|72=>243|37=>219|127=>278|3=>3|5=>5|n=>n,fun|n=>n⟩
theorem Tryz.lays169:Go.Proofs.Lays.n169 Tryz.prog Tryz.lays169_ren:={
 mixed:=by kernel_rfl
 f169:=Tryz.func188.trans (congrArg some (by kernel_rfl))
 t0:=Tryz.underlying0
 a0:=Tryz.isAgg0
 z0:=Tryz.sizeOf0
 v0:=Tryz.zeroValue0
 t3:=Tryz.underlying3
 a3:=Tryz.isAgg3
 z3:=Tryz.sizeOf3
 v3:=Tryz.zeroValue3
 t9:=Tryz.underlying9
 a9:=Tryz.isAgg9
 z9:=Tryz.sizeOf9
 v9:=Tryz.zeroValue9
 t37:=Tryz.underlying219
 a37:=Tryz.isAgg219
 z37:=Tryz.sizeOf219
 v37:=Tryz.zeroValue219
 t70:=Tryz.underlying241
 a70:=Tryz.isAgg241
 z70:=Tryz.sizeOf241
 v70:=Tryz.zeroValue241
 t72:=Tryz.underlying243
 a72:=Tryz.isAgg243
 z72:=Tryz.sizeOf243
 v72:=Tryz.zeroValue243
 t127:=Tryz.underlying278
 a127:=Tryz.isAgg278
 z127:=Tryz.sizeOf278
 v127:=Tryz.zeroValue278 }
end Go.Proofs
namespace Go.Ir
open Go.Proofs Go.RowKit
theorem bld_extra:Go.Proofs.Builder.Extra Tryz.prog Tryz.lays169_ren where
 sizeBuilder:=by kernel_rfl
 liesBuilder:=by kernel_rfl
 t5:=Tryz.underlying5
 a5:=Tryz.isAgg5
 z5:=Tryz.sizeOf5
 v5:=Tryz.zeroValue5
 infoByte:=by kernel_rfl
 cellsByte:=by kernel_rfl
 sizeByte:=by kernel_rfl
 neB5:=by decide
set_option maxHeartbeats 1000000 in
set_option maxRecDepth 100000 in
theorem bld_used (b:Nat) (w:World) (h0:w.cell? ⟨b,0,none⟩=some (.pointer (some ⟨b,0,none⟩))) :
  Calls Tryz.prog 219 #[.pointer (some ⟨b,0,none⟩)] w fun e w'=>e = .returned (.tuple #[])/\w'=w:=by
 obtain ⟨j,hj,_⟩:=Option.map_eq_some_iff.1 bld_extra.sizeBuilder
 go_enter Tryz.func219,Tryz.ntmps219
 go_wp2
 rw [Lib.run_neq_ptr_same w _ Tryz.underlying241 hj]
 go_wp2
 go_end0
 exact ⟨rfl,rfl⟩
set_option maxHeartbeats 1000000 in
set_option maxRecDepth 100000 in
theorem bld_fresh (b:Nat) (w:World) (h0:w.cell? ⟨b,0,none⟩=some (.pointer none)) (hsh:w.shape? b=some (243,2)) (hfz:w.frozen? ⟨b,0,none⟩=false) :
  Calls Tryz.prog 219 #[.pointer (some ⟨b,0,none⟩)] w fun e w'=>e = .returned (.tuple #[])/\w'=w.setCell ⟨b,0,none⟩ (.pointer (some ⟨b,0,none⟩)):=by
 obtain ⟨j,hj,hjs⟩:=Option.map_eq_some_iff.1 bld_extra.sizeBuilder
 go_enter Tryz.func219,Tryz.ntmps219
 go_wp2
 rw [Lib.run_to_unsafe w ⟨b,0,none⟩ Tryz.underlying241 Tryz.underlying302 hj (by rw [hjs];decide) hsh (Nat.zero_lt_succ 1)]
 simp only [Result.andThen]
 rw [Oper.upon_value]
 go_wp2
 rw [run_callFunc_extern Tryz.func251 (by kernel_rfl) (by kernel_rfl) (by kernel_rfl) (e:=Extern.AbiNoEscape.same) (by kernel_rfl),Lib.run_noEscape]
 simp only [Result.andThen]
 rw [Oper.upon_value]
 go_wp2
 rw [Lib.run_from_unsafe w ⟨b,0,none⟩ Tryz.underlying302 Tryz.underlying241 hj hsh bld_extra.liesBuilder]
 simp only [Result.andThen]
 rw [Oper.upon_value]
 go_wp2
 go_end0
 exact ⟨rfl,rfl⟩
theorem bld_check (B b:Nat) (bs:List Value) (w:World) (h:Lib.IsBuilder 243 5 B b bs w) :
  Calls Tryz.prog 219 #[.pointer (some ⟨b,0,none⟩)] w fun e w'=>e = .returned (.tuple #[])/\(Lib.BuilderAt 243 5 B b (.pointer (some ⟨b,0,none⟩)) bs w'/\Below B w w'):=by
 rcases h with h|h
 ·refine (bld_fresh b w h.cell0 h.shape h.frozen0).mono fun e w' ⟨he,hw⟩=>?_
  subst hw
  exact ⟨he,h.used _,(Below.refl B w).setCell (p:=⟨b,0,none⟩) h.1 _⟩
 ·refine (bld_used b w h.cell0).mono fun e w' ⟨he,hw⟩=>?_
  subst hw
  exact ⟨he,h,Below.refl _ _⟩
set_option maxHeartbeats 2000000 in
set_option maxRecDepth 100000 in
theorem bld_byte (B b:Nat) (bs:List Value) (c:Int) (w:World) (h:Lib.IsBuilder 243 5 B b bs w) (hlen:bs.length+1<=140737488355328) (hBw:B<=w.heap.size) :
  Calls Tryz.prog 187 #[.pointer (some ⟨b,0,none⟩),.int .u8 c] w fun e w'=>e = .returned .nilIface/\(Lib.BuilderAt 243 5 B b (.pointer (some ⟨b,0,none⟩)) (bs++[.int .u8 c]) w'/\Below B w w'):=by
 obtain ⟨i0,hi,hz0,hz1,hz2⟩:=info_parts bld_extra.infoByte
 have hcall:∀args w,(callFunc 219 args).run Tryz.prog w = .ok (.enter 219 args) w:=enters_of Tryz.func219 (by kernel_rfl) rfl
 go_enter Tryz.func187,Tryz.ntmps187
 go_wp2_with (go_at_fn 219;refine (bld_check B b bs _ h).mono ?_)
 rintro e w1 ⟨rfl,⟨hB,v,hbk,hown,hne⟩,hb1⟩
 have c0:w1.cell? ⟨b,0,none⟩=some (.pointer (some ⟨b,0,none⟩)):=by rw [Lib.cell_of_heap hbk];rfl
 have c1:w1.cell? ⟨b,1,none⟩=some v:=by rw [Lib.cell_of_heap hbk];rfl
 go_wp2_with (at_builtin;refine wpList_append_own _ rfl _ _ 219 rfl B 5 i0 (.int .u8 0) 1 1 Tryz.underlying219 hi hz0 hz1 hz2 rfl (by decide) _ _ _ rfl (hown.alloc _) ⟨w1.heap.size,0,none⟩ 1 1 [.int .u8 c] rfl rfl ?c1 ?c2 ?c3 ?c4 ?c5 ?_)
 case c1=>
  intro j u hj
  match j,hj with
  | 0,hj=>simp at hj;subst hj;simp [Addr.add]
 case c2=>intro u hu;simp at hu;subst hu;rfl
 case c3=>unfold maxLen;omega
 case c4=>omega
 case c5=>have:=hb1.size;simp;omega
 intro v' w2 hown' hgrow _
 have hlt:b<w1.heap.size:=(Array.getElem?_eq_some_iff.1 hbk).1
 have hb2:w2.heap[b]? = some (.cells #[.pointer (some ⟨b,0,none⟩),v] 243 (0,0)):=by
  rw [hgrow.block b (by simp;omega) (fun e=>hne e.symm),Lib.alloc_old w1 _ b hlt]
  exact hbk
 have d0:w2.cell? ⟨b,0,none⟩=some (.pointer (some ⟨b,0,none⟩)):=by rw [Lib.cell_of_heap hb2];rfl
 have d1:w2.cell? ⟨b,1,none⟩=some v:=by rw [Lib.cell_of_heap hb2];rfl
 have f1:w2.frozen? ⟨b,1,none⟩=false:=Lib.frozen_of_heap hb2 1
 obtain ⟨g,cap,rfl⟩:∃g cap,v' = .slice (some ⟨g,0,none⟩) (bs.length+1) cap:=by
  rcases hown'.2 with ⟨_,h0⟩|⟨g,cap,cur,hv,_⟩
  ·omega
  ·exact ⟨g,cap,hv⟩
 go_wp2
 go_ret
 exact ⟨rfl,Lib.BuilderAt.put (T:=243) (e:=5) hB hb2 (bs':=bs++[.int .u8 c]) (by simpa using hown') (by decide),((hb1.alloc (by have:=hb1.size;omega) _).grown hgrow (by have:=hb1.size;simp;omega) (fun k hk=>(hown.lt k hk).1)).setCell (p:=⟨b,1,none⟩) hB _⟩
theorem bld_string (B b:Nat) (l:List UInt8) (w:World) (h:Lib.IsBuilder 243 5 B b (Lib.byteCells l) w) (hBw:B<=w.heap.size) :
  Calls Tryz.prog 188 #[.pointer (some ⟨b,0,none⟩)] w fun e w'=>e = .returned (.string ⟨l.toArray⟩)/\Below B w w':=
 Any.Builder_String_any Tryz.lays169 bld_extra B b l w h hBw
theorem special_calls (c:UInt8) (w:World):Calls Tryz.prog 186 #[.int .u8 c.toNat] w fun e w'=>e = .returned (.bool (specB c.toNat))/\w'=w:=by
 go_enter Tryz.func186,Tryz.ntmps186
 go_wp2
 all_goals (go_ret;exact ⟨by simp [specB, *],rfl⟩)
set_option maxHeartbeats 4000000 in
set_option maxRecDepth 1000000 in
theorem esc_walk (s:Bytes) (hs:s.length<=2^26) (w:World):Calls Tryz.prog 154 #[.string ⟨s.toArray⟩] w fun e w'=>e = .returned (.string ⟨(escB s).toArray⟩)/\Below w.heap.size w w':=by
 go_enter Tryz.func154,Tryz.ntmps154
 go_wp2
 go_loopw [7] (fun i wr=>∃(done rest acc:Bytes),done++rest=s/\i = .int .i64 done.length/\Lib.IsBuilder 243 5 w.heap.size w.heap.size (Lib.byteCells acc) wr/\Below w.heap.size w wr/\acc++escB rest=escB s/\acc.length<=2*done.length) (fun i _=>s.length-(intOf i).toNat)
 case atStart=>
  refine ⟨[],s,[],rfl,rfl,Lib.fresh_isBuilder _ _ _,(Below.refl _ w).alloc (Nat.le_refl _) _,rfl,by simp⟩
 case round=>
  obtain ⟨done,rest,acc,hz,hi,hI,hbw,hacc,hal⟩:=hrel
  subst hi
  have hsl:s.length=done.length+rest.length:=by rw [<-hz];simp
  cases rest with
  | nil=>
   have hlt:decide (done.length<s.length)=false:=by simp at hsl⊢;omega
   have hlt2:¬done.length<s.length:=by simpa using hlt
   clear hsl
   go_wp2_with (go_at_call 188;refine (bld_string w.heap.size w.heap.size acc _ hI hbw.size).mono ?_)
   rintro e w1 ⟨rfl,b1⟩
   go_wp2
   go_ret
   rw [escB,List.append_nil] at hacc
   rw [<-hacc]
   exact ⟨rfl,hbw.trans b1⟩
  | cons c rest=>
   have e1:∀args w,(callFunc 186 args).run Tryz.prog w = .ok (.enter 186 args) w:=enters_of Tryz.func186 (by kernel_rfl) rfl
   have e2:∀args w,(callFunc 187 args).run Tryz.prog w = .ok (.enter 187 args) w:=enters_of Tryz.func187 (by kernel_rfl) rfl
   have hlt:decide (done.length<s.length)=true:=by simp at hsl⊢;omega
   have hlt2:done.length<s.length:=by simpa using hlt
   have hl:acc.length+2<=2^28/\done.length<2^26:=by simp at hsl;omega
   obtain ⟨hl,hld⟩:=hl
   clear hsl
   have hw1:RowKit.wrap64 ((done.length:Int)+1)=(done.length:Int)+1:=by unfold RowKit.wrap64;omega
   have hg:∀h,(⟨s.toArray⟩:ByteArray)[done.length]'h=c:=by
    subst hz
    intro h
    show (done++c::rest).toArray[done.length]=c
    simp
   go_wp2_with (go_at_call 186;refine (special_calls _ _).mono ?_)
   rintro e w1 ⟨rfl,rfl⟩
   by_cases hc:specB c.toNat=true
   ·rw [hc]
    go_wp2_with (go_at_call 187;refine (bld_byte w.heap.size w.heap.size _ 92 _ hI (by rw [Lib.byteCells_length];omega) hbw.size).mono ?_)
    rintro e w2 ⟨rfl,h2,b2⟩
    go_wp2_with (go_at_call 187;refine (bld_byte w.heap.size w.heap.size _ _ _ (.inr h2) (by simp [Lib.byteCells_length];omega) (by have:=hbw.size;have:=b2.size;omega)).mono ?_)
    rintro e w3 ⟨rfl,h3,b3⟩
    go_wp2
    go_roundw
    case rel=>
     refine ⟨done++[c],rest,acc++[92,c],by rw [<-hz];simp,?_,?_,?_,?_,?_⟩
     ·simp
     ·right;simpa [Lib.byteCells] using h3
     ·exact (hbw.trans b2).trans b3
     ·rw [<-hacc,escB,hc];simp
     ·simp;omega
    case measure=>
     simp at hlt;simp [intOf,hw1];omega
   ·have hc:specB c.toNat=false:=by simpa using hc
    rw [hc]
    go_wp2_with (go_at_call 187;refine (bld_byte w.heap.size w.heap.size _ _ _ hI (by rw [Lib.byteCells_length];omega) hbw.size).mono ?_)
    rintro e w2 ⟨rfl,h2,b2⟩
    go_wp2
    go_roundw
    case rel=>
     refine ⟨done++[c],rest,acc++[c],by rw [<-hz];simp,?_,?_,?_,?_,?_⟩
     ·simp
     ·right;simpa [Lib.byteCells] using h2
     ·exact hbw.trans b2
     ·rw [<-hacc,escB,hc];simp
     ·simp;omega
    case measure=>
     simp at hlt;simp [intOf,hw1];omega
theorem escB_len2 (s:Bytes):(escB s).length<=2*s.length:=by
 induction s with
 | nil=>simp [escB]
 | cons c s ih=>rw [escB];split<;>simp<;>omega
theorem c_tEscape (W0:World) (s:Bytes) (hs:s.length<=2^26):RetS Tryz.prog W0 154 [.s s] [] (.s (escB s)) []:=by
 refine retS_of_calls (by kernel_rfl) fun w vals hb ⟨μ,H,hv⟩=>?_
 obtain ⟨rfl,_⟩:=hv.one_s
 refine (esc_walk s hs w).mono fun e w' ⟨he,hw⟩=>?_
 refine ⟨_,he,fun _ _=>.s _ ?_,hw⟩
 have:=escB_len2 s
 unfold SLim;omega
end Go.Ir
namespace Go.Ir
open Go.Proofs
variable (W0 : World)
def validB (ps:List Part):Bool:=formedPs ps 1 false false&&decide (((namesPs ps []).length:Int)<=20)&&decide (((textPs ps).length:Int)<=4000)
end Go.Ir
section
namespace Go.Ir
def setE (l:List Bytes):List (V × V):=l.map fun k=>(.s k,.b true)
theorem setE_len (l:List Bytes):(setE l).length=l.length:=by simp [setE]
def putN (k:Bytes) (l:List Bytes):List Bytes:=if l.contains k then l else l++[k]
theorem find_set (k:Bytes) (l:List Bytes):∀n,(l.contains k=true/\∃i,findV .str (.s k) (setE l) n=some (some (n+i,.b true))/\(setE l).modify i (fun e=>(e.1,.b true))=setE l)\/(l.contains k=false/\findV .str (.s k) (setE l) n=some none):=by
 induction l with
 | nil=>intro n;exact .inr ⟨rfl,rfl⟩
 | cons x l ih=>
  intro n
  have hu:findV .str (.s k) (setE (x::l)) n=(match keyEq .str (.s k) (.s x) with
   | some true=>some (some (n,.b true))
   | some false=>findV .str (.s k) (setE l) (n+1)
   | none=>none):=rfl
  have hk:keyEq .str (.s k) (.s x)=some (k == x):=rfl
  rw [hu,hk,List.contains_cons]
  by_cases h:k=x
  ·subst h
   refine .inl ⟨by simp,0,?_,?_⟩
   ·simp
   ·simp [setE]
  ·have hb:(k == x)=false:=by simpa using h
   rw [hb,Bool.false_or]
   rcases ih (n+1) with ⟨h1,i,h2,h3⟩|⟨h1,h2⟩
   ·refine .inl ⟨h1,i+1,?_,?_⟩
    ·simp only;rw [h2];simp;omega
    ·show (setE (x::l)).modify (i+1) _=_
     simp only [setE,List.map_cons,List.modify_succ_cons] at h3⊢
     rw [h3]
   ·exact .inr ⟨h1,by simp only;rw [h2]⟩
theorem set_cases (k:Bytes) (l:List Bytes):(l.contains k=true/\putN k l=l/\∃i,findV .str (.s k) (setE l) 0=some (some (i,.b true))/\(setE l).modify i (fun e=>(e.1,.b true))=setE l)\/(l.contains k=false/\putN k l=l++[k]/\findV .str (.s k) (setE l) 0=some none):=by
 rcases find_set k l 0 with ⟨h1,i,h2,h3⟩|⟨h1,h2⟩
 ·exact .inl ⟨h1,by unfold putN;rw [h1];rfl,i,by simpa using h2,h3⟩
 ·exact .inr ⟨h1,by unfold putN;rw [h1];rfl,h2⟩
theorem setE_snoc (k:Bytes) (l:List Bytes):setE l++[(V.s k,V.b true)]=setE (l++[k]):=by simp [setE]
theorem lk_rot {a:Id × Ent} {σ:Sto} (h:∀p∈σ,p.1≠a.1):∀i e,lk (a::σ) i=some e->lk (σ++[a]) i=some e:=by
 obtain ⟨ai,ae⟩:=a
 induction σ with
 | nil=>intro i e h;exact h
 | cons b σ ih=>
  obtain ⟨bi,be⟩:=b
  intro i e h1
  simp only [lk] at h1
  show (if bi=i then some be else lk (σ++[(ai,ae)]) i)=some e
  split at h1
  ·rename_i h2
   subst h2
   have:bi≠ai:=h (bi,be) (by simp)
   rw [if_neg this]
   exact ih (fun p hp=>h p (List.mem_cons_of_mem _ hp)) ai e (by simp [lk];exact Option.some.inj h1)
  ·rename_i h2
   split at h1
   ·rename_i h3;rw [if_pos h3];exact h1
   ·rename_i h3;rw [if_neg h3]
    exact ih (fun p hp=>h p (List.mem_cons_of_mem _ hp)) i e (by simp only [lk];rw [if_neg h2];exact h1)
theorem sub_hd {id:Id} {x:Ent} {σ:Sto}:∀i e,lk [(id,x)] i=some e->lk ((id,x)::σ) i=some e:=by
 intro i e h
 simp only [lk] at h⊢
 split at h
 ·rename_i h1;rw [if_pos h1];exact h
 ·cases h
theorem sub_2 {id:Id} {x:Ent} {a:Id × Ent} {σ:Sto} (ha:(a.1=id)=False):∀i e,lk [(id,x)] i=some e->lk (a::(id,x)::σ) i=some e:=by
 intro i e h
 obtain ⟨ai,ae⟩:=a
 simp only [lk] at h⊢
 split at h
 ·rename_i h1;subst h1;rw [if_neg (of_eq_false ha),if_pos rfl];exact h
 ·cases h
section
variable {P : Program} {W0 : World} {ep d : Nat} {live : List Nat} {Q : Exit → St → Prop} {l : List I} {env : Env} {σ : Sto}
theorem c_calls_n {f:FuncId} {vs:List V} {v:V} {id:Id} {e e':Ent} {pre:Sto} (h:RetS P W0 f vs [(id,e)] v [(id,e')]) (hne:∀p∈pre++σ,p.1≠id)
  (hh:J P W0 ep live Q l ((d,v)::env) ((id,e')::(pre++σ))):JCallS P W0 ep live Q f vs l d env (pre++(id,e)::σ):=by
 have hlk:∀(τ:Sto),(∀p∈τ,p.1≠id)->lk (τ++(id,e)::σ) id=some e:=by
  intro τ hτ
  induction τ with
  | nil=>simp [lk]
  | cons a τ ih=>
   obtain ⟨ai,ae⟩:=a
   have:ai≠id:=hτ (ai,ae) (by simp)
   show (if ai=id then some ae else lk (τ++(id,e)::σ) id)=some e
   rw [if_neg this]
   exact ih fun p hp=>hτ p (List.mem_cons_of_mem _ hp)
 refine c_calls h (fun i y hi=>?_) ?_
 ·simp only [lk] at hi
  split at hi
  ·rename_i h1;subst h1;cases hi
   exact hlk pre fun p hp=>hne p (List.mem_append_left _ hp)
  ·cases hi
 ·have hf:List.filter (fun p:Id × Ent=>(lk [(id,e)] p.1).isNone) (pre++(id,e)::σ)=pre++σ:=by
   rw [List.filter_append,List.filter_cons_of_neg (by simp [lk]),<-List.filter_append,List.filter_eq_self]
   intro p hp
   simp [lk,Ne.symm (hne p hp)]
  unfold over
  rw [hf];exact hh
end
end Go.Ir
end
section
namespace Go.Ir
open Go.Proofs
variable (W0 : World)
mutual
def Part.chk:Part->Int->Bool->List Bytes->Bool × List Bytes
 | ⟨k,t,nm,st,cs,ps⟩,d,c,l=>
  match (if k == 11 then (if decide (d>=8) then (false,l) else chkPs ps (d+1) c false l) else (true,l)) with
  | (false,l1)=>(false,l1)
  | (true,l1)=>match (if selB k then (if decide (d>=8) then (false,l1) else chkCs cs k (d+1) c cs.length [] l1) else (true,l1)) with
   | (false,l2)=>(false,l2)
   | (true,l2)=>(true,if !(k == 11)&&!(nm == []) then putN nm l2 else l2)
def chkPs:List Part->Int->Bool->Bool->List Bytes->Bool × List Bytes
 | [],_,_,_,l=>(true,l)
 | p::ps,d,c,prev,l=>
  if !p.fieldsB||(p.kind == 10&&!c)||(prev&&p.kind == 1) then (false,l) else
  match p.chk d c l with
  | (false,l1)=>(false,l1)
  | (true,l1)=>chkPs ps d c (p.kind == 1) l1
def chkCs:List (Bytes × List Part)->Int->Int->Bool->Nat->List Bytes->List Bytes->Bool × List Bytes
 | [],_,_,_,n,seen,l=>(decide ((n:Int)<=20)&&seen.contains kOtherS,l)
 | (key,ps)::cs,k,d,c,n,seen,l=>
  if !keyB k key||seen.contains key then (false,l) else
  match chkPs ps d (c||(k != 9)) false l with
  | (false,l1)=>(false,l1)
  | (true,l1)=>chkCs cs k d c n (seen++[key]) l1
end
theorem Part.chk_eq (p:Part) (d:Int) (c:Bool) (l:List Bytes):p.chk d c l =
  match (if p.kind == 11 then (if decide (d>=8) then (false,l) else chkPs p.parts (d+1) c false l) else (true,l)) with
  | (false,l1)=>(false,l1)
  | (true,l1)=>match (if selB p.kind then (if decide (d>=8) then (false,l1) else chkCs p.cases p.kind (d+1) c p.cases.length [] l1) else (true,l1)) with
   | (false,l2)=>(false,l2)
   | (true,l2)=>(true,if !(p.kind == 11)&&!(p.name == []) then putN p.name l2 else l2):=by cases p;simp only [Part.chk]
theorem chkPs_cons (p:Part) (ps:List Part) (d:Int) (c prev:Bool) (l:List Bytes):chkPs (p::ps) d c prev l =
  if !p.fieldsB||(p.kind == 10&&!c)||(prev&&p.kind == 1) then (false,l) else
  match p.chk d c l with
  | (false,l1)=>(false,l1)
  | (true,l1)=>chkPs ps d c (p.kind == 1) l1:=by simp only [chkPs]
theorem chkCs_cons (x:Case) (cs:List Case) (k d:Int) (c:Bool) (n:Nat) (seen l:List Bytes):chkCs (x::cs) k d c n seen l =
  if !keyB k x.1||seen.contains x.1 then (false,l) else
  match chkPs x.2 d (c||(k != 9)) false l with
  | (false,l1)=>(false,l1)
  | (true,l1)=>chkCs cs k d c n (seen++[x.1]) l1:=by obtain ⟨a,b⟩:=x;simp only [chkCs]
theorem ne_id {id:Id} {a:Nat} (h:id.1<a) (j:Nat):((a,j)=id)=False:=by
 apply eq_false;rintro rfl;exact Nat.lt_irrefl _ h
theorem ne_id' {id:Id} {a:Nat} (h:id.1<a) (j:Nat):(id=(a,j))=False:=by
 apply eq_false;rintro rfl;exact Nat.lt_irrefl _ h
theorem dom1 {id:Id} {e e':Ent}:∀i,lk [(id,e')] i≠none->lk [(id,e)] i≠none:=by
 intro i h
 simp only [lk] at h⊢
 split
 ·simp
 ·rename_i h1;rw [if_neg h1] at h;exact absurd rfl h
theorem c_cases (p:Part) (d:Int) (c:Bool) (l:List Bytes) (id:Id) (hb:p.wt<=2^24) (hp:∀x∈p.cases,∀l,RetS Tryz.prog W0 119 [.agg [.arr id],.sl (x.2.map Part.enc),.i .i64 d,.b (c||(p.kind != 9))] [(id,.map (setE l))] (.b (chkPs x.2 d (c||(p.kind != 9)) false l).1) [(id,.map (setE (chkPs x.2 d (c||(p.kind != 9)) false l).2))]) :
  RetS Tryz.prog W0 153 [.agg [.arr id],p.enc,.i .i64 d,.b c] [(id,.map (setE l))] (.b (chkCs p.cases p.kind d c p.cases.length [] l).1) [(id,.map (setE (chkCs p.cases p.kind d c p.cases.length [] l).2))]:=by
 rw [p.wt_eq] at hb
 have hlc:=len_wtCs p.cases
 generalize hS:chkCs p.cases p.kind d c p.cases.length [] l=S
 refine fn_retW (vs:=[.b S.1]) f153ok (by simp) dom1 fun n0 hn0=>?_
 have hid:id.1<n0:=hn0 id (.map (setE l)) (by simp [lk])
 clear hn0
 rw [Part.enc_eq]
 have f1:∀j,((n0,j)=id)=False:=fun j=>ne_id hid j
 have f1':∀j,(id=(n0,j))=False:=fun j=>ne_id' hid j
 simp only [push_cast,seval,reduceEqDiff,f1,f1']
 intro k1 k2 k3
 refine aWP_loopW p.cases.length (Inv:=fun m st=>∃cd cr n' seen l' m0,p.cases=cd++cr/\m=cr.length/\chkCs cr p.kind d c p.cases.length seen l'=S/\id.1<m0/\id.1<n'/\st=⟨[(2,.i .i64 d),(3,.b c),(4,.ref (n0,4) 0),(5,.ref (n0,5) 0),(9,.arr (m0,12)),(14,.sl (p.cases.map Case.enc)),(15,.i .i64 p.cases.length),(16,.i .i64 cd.length)],[(id,.map (setE l')),((m0,12),.map (setE seen)),((n0,5),.box p.v),((n0,4),.box (.agg [.arr id]))],n'⟩) ⟨_,StLe.drop (lk_rot (σ:=[_,_,_]) ?_) (Nat.le_refl _),[],p.cases,_,[],l,_,rfl,rfl,hS,?_,?_,rfl⟩ ?_
 ·have:=ne_id (id:=id) (a:=n0+1+k1) (by omega)
  simp [f1,this]
 ·omega
 ·omega
 clear hS
 rintro m _ ⟨cd,cr,n',seen,l',m0,hcz,rfl,hd,hm0,hn',rfl⟩
 unfold Part.v
 have f2:∀j,((m0,j)=id)=False:=fun j=>ne_id hm0 j
 have f2':∀j,(id=(m0,j))=False:=fun j=>ne_id' hm0 j
 have f3:∀k j,((n'+1+k,j)=id)=False:=fun k j=>ne_id (by omega) j
 have f3':∀k j,(id=(n'+1+k,j))=False:=fun k j=>ne_id' (by omega) j
 cases cr with
 | nil=>
  rw [chkCs] at hd
  subst hd
  rcases set_cases kOtherS seen with ⟨h1,_,i,h2,_⟩|⟨h1,_,h2⟩
  all_goals unfold kOtherS at h2
  ·skip
   simp only [push_cast,seval,reduceEqDiff,f1,f1',f2,f2',f3,f3',h2,hcz]
   repeat' (first|(((first|apply condU_s|apply gdU_t|apply gdU_f)<;>intro _h)<;>simp only [push_cast,seval,reduceEqDiff,_h,f1,f1',f2,f2',f3,f3',h2])|intro _)
   all_goals (refine finW_retS ?_ sub_hd;simp only [get_cons,h1,if_true,if_false,Bool.and_true,Bool.and_false,reduceEqDiff];done)
  ·skip
   simp only [push_cast,seval,reduceEqDiff,f1,f1',f2,f2',f3,f3',h2,hcz]
   repeat' (first|(((first|apply condU_s|apply gdU_t|apply gdU_f)<;>intro _h)<;>simp only [push_cast,seval,reduceEqDiff,_h,f1,f1',f2,f2',f3,f3',h2])|intro _)
   all_goals (refine finW_retS ?_ sub_hd;simp only [get_cons,h1,if_true,if_false,Bool.and_true,Bool.and_false,reduceEqDiff];done)
 | cons x cr=>
  have hcb:=zip_bd hcz
  have hxm:x∈p.cases:=by rw [hcz];simp
  have hwc:=wtCs_mem hxm
  have hk:=c_sKey W0 p.kind x.1 (by omega)
  have hpT:c=true->RetS Tryz.prog W0 119 [.agg [.arr id],.sl (x.2.map Part.enc),.i .i64 d,.b true] [(id,.map (setE l'))] (.b (chkPs x.2 d (c||(p.kind != 9)) false l').1) [(id,.map (setE (chkPs x.2 d (c||(p.kind != 9)) false l').2))]:=by
   intro hc;have:=hp x hxm l';rw [hc] at this⊢;exact this
  have hpF:c=false->RetS Tryz.prog W0 119 [.agg [.arr id],.sl (x.2.map Part.enc),.i .i64 d,.b (p.kind != 9)] [(id,.map (setE l'))] (.b (chkPs x.2 d (c||(p.kind != 9)) false l').1) [(id,.map (setE (chkPs x.2 d (c||(p.kind != 9)) false l').2))]:=by
   intro hc;have:=hp x hxm l';rw [hc] at this⊢;exact this
  rw [chkCs_cons] at hd
  clear hp
  generalize chkPs x.2 d (c||(p.kind != 9)) false l'=R at *
  generalize keyB p.kind x.1=K2 at *
  have hy:∀k j,∀q∈[((n'+1+k,j),Ent.box (.agg [V.s x.fst,V.sl (List.map Part.enc x.snd)]))]++[((m0,12),Ent.map (setE seen)),((n0,5),.box (.agg [V.i IntKind.i64 p.kind,V.s p.text,V.s p.name,V.s p.style,V.sl (List.map Case.enc (cd++x::cr)),V.sl (List.map Part.enc p.parts)])),((n0,4),.box (.agg [.arr id]))],q.1≠id:=by
   intro k j q hq
   simp at hq
   rcases hq with rfl|rfl|rfl|rfl
   all_goals simp [f1,f2,f3]
  rcases set_cases x.1 seen with ⟨h1,_,i,h2,_⟩|⟨h1,_,h2⟩
  all_goals rw [h1] at hd
  ·rw [Bool.or_true,if_pos rfl] at hd
   subst hd
   simp only [push_cast,seval,reduceEqDiff,hcz,f1,f1',f2,f2',f3,f3',h2,wrap_zip x (done:=cd) (by omega),setE_snoc]
   repeat' (first|(((first|apply condU_s|apply gdU_t|apply gdU_f)<;>intro _h)<;>simp only [push_cast,seval,reduceEqDiff,_h,hcz,f1,f1',f2,f2',f3,f3',h2,wrap_zip x (done:=cd) (by omega),setE_snoc])|(refine c_call (by exact hk) ?_;simp only [push_cast,seval,reduceEqDiff,hcz,f1,f1',f2,f2',f3,f3',h2,wrap_zip x (done:=cd) (by omega),setE_snoc])|intro _)
   all_goals (refine finW_retS ?_ (sub_2 (f3 _ _));simp only [get_cons,if_true];done)
  ·rw [Bool.or_false] at hd
   obtain ⟨rb,rl⟩:=R
   cases K2
   all_goals cases rb
   all_goals
    simp only [Bool.not_true,Bool.not_false,if_true,if_false,Bool.false_eq_true] at hd
    skip
    simp only [push_cast,seval,reduceEqDiff,hcz,f1,f1',f2,f2',f3,f3',h2,wrap_zip x (done:=cd) (by omega),setE_snoc]
    repeat' (first|(((first|apply condU_s|apply gdU_t|apply gdU_f)<;>intro _h)<;>simp only [push_cast,seval,reduceEqDiff,_h,hcz,f1,f1',f2,f2',f3,f3',h2,wrap_zip x (done:=cd) (by omega),setE_snoc])|(refine c_call (by exact hk) ?_;simp only [push_cast,seval,reduceEqDiff,hcz,f1,f1',f2,f2',f3,f3',h2,wrap_zip x (done:=cd) (by omega),setE_snoc])|intro _)
    all_goals (try (first|refine c_calls_n (pre:=[_]) (hpT (by assumption)) (hy _ _) ?_|refine c_calls_n (pre:=[_]) (hpF (by assumption)) (hy _ _) ?_))
    all_goals (try simp only [push_cast,seval,reduceEqDiff,hcz,f1,f1',f2,f2',f3,f3',h2,wrap_zip x (done:=cd) (by omega),setE_snoc])
    repeat' (first|(((first|apply condU_s|apply gdU_t|apply gdU_f)<;>intro _h)<;>simp only [push_cast,seval,reduceEqDiff,_h,hcz,f1,f1',f2,f2',f3,f3',h2,wrap_zip x (done:=cd) (by omega),setE_snoc])|intro _)
    all_goals (try (exfalso;simp_all;done))
    all_goals subst_vars
    all_goals (first|(refine finW_retS (by simp [get]) ?_;first|exact sub_hd|exact sub_2 (f3 _ _))|exact ⟨_,_,Nat.lt_succ_self _,StLe.dropM (by simp [lk]) (Nat.le_refl _),cd++[x],cr,_,seen++[x.1],rl,m0,by simp,rfl,by rw [hcz],hm0,by omega,rfl⟩|skip)
end Go.Ir
end
namespace Go.Ir
open Go.Proofs
variable (W0 : World)
theorem selB_not {k:Int} (h:selB k=true):(k == 1)=false/\(k == 10)=false/\(k == 11)=false/\(k != 11)=true:=by
 unfold selB at h
 simp at h
 refine ⟨?_,?_,?_,?_⟩<;>simp<;>omega
set_option maxHeartbeats 4000000 in
theorem c_chk:∀(N:Nat) (ps:List Part) (d:Int) (c:Bool) (l:List Bytes) (id:Id),wtPs ps<N->wtPs ps<=2^24->0<=d->d<=2^30->
  RetS Tryz.prog W0 119 [.agg [.arr id],.sl (ps.map Part.enc),.i .i64 d,.b c] [(id,.map (setE l))] (.b (chkPs ps d c false l).1) [(id,.map (setE (chkPs ps d c false l).2))]:=by
 intro N
 induction N with
 | zero=>intro ps d c l id h;omega
 | succ N ih=>
 intro ps d c l id hN hb hd0 hd1
 have hlen:=len_wtPs ps
 generalize hS:chkPs ps d c false l=S
 refine fn_retW (vs:=[.b S.1]) f119ok (by simp) dom1 fun n0 hn0=>?_
 have hid:id.1<n0:=hn0 id (.map (setE l)) (by simp [lk])
 clear hn0
 have f1:∀j,((n0,j)=id)=False:=fun j=>ne_id hid j
 have f1':∀j,(id=(n0,j))=False:=fun j=>ne_id' hid j
 simp only [push_cast,seval,reduceEqDiff,f1,f1']
 intro k1 k2
 refine aWP_loopW ps.length (Inv:=fun m st=>∃done rest n' l',ps=done++rest/\m=rest.length/\chkPs rest d c (lastT done) l'=S/\id.1<n'/\st=⟨[(1,.sl (ps.map Part.enc)),(2,.i .i64 d),(3,.b c),(4,.ref (n0,4) 0),(11,.sl (ps.map Part.enc)),(12,.i .i64 ps.length),(13,.i .i64 done.length)],[(id,.map (setE l')),((n0,4),.box (.agg [.arr id]))],n'⟩) ⟨_,StLe.drop (lk_rot (σ:=[_]) ?_) (Nat.le_refl _),[],ps,_,l,rfl,rfl,hS,?_,rfl⟩ ?_
 ·simp [f1]
 ·omega
 clear hS
 rintro m _ ⟨done,rest,n',l',hz,rfl,hd,hn',rfl⟩
 have f3:∀k j,((n'+1+k,j)=id)=False:=fun k j=>ne_id (by omega) j
 have f3':∀k j,(id=(n'+1+k,j))=False:=fun k j=>ne_id' (by omega) j
 cases rest with
 | nil=>
  rw [chkPs] at hd
  subst hd
  simp only [push_cast,seval,reduceEqDiff,f1,f1',f3,f3',hz]
  repeat' (first|(((first|apply condU_s|apply gdU_t|apply gdU_f)<;>intro _h)<;>simp only [push_cast,seval,reduceEqDiff,_h,f1,f1',f3,f3'])|intro _)
  all_goals (refine finW_retS (by simp [get]) sub_hd)
 | cons p rest=>
  have hbd:=zip_bd hz
  have hw:=wtPs_mem (ps:=ps) (p:=p) (by rw [hz];simp)
  have hw0:=hw
  rw [p.wt_eq] at hw
  have hlt:lastT (done++[p])=(p.kind == 1):=by simp [lastT]
  rw [chkPs_cons] at hd
  have hlp:(decide ((done.length:Int)>0)=false/\lastT done=false)\/(∃q:Part,decide ((done.length:Int)>0)=true/\(List.map Part.enc (done++p::rest))[(IntKind.i64.wrap ((done.length:Int)-1)).toNat]? = some q.enc/\(0<=IntKind.i64.wrap ((done.length:Int)-1))=True/\lastT done=(q.kind == 1)):=by
   rcases List.eq_nil_or_concat done with rfl|⟨d',q,rfl⟩
   ·exact .inl ⟨rfl,rfl⟩
   ·rw [List.concat_eq_append] at *
    have:IntKind.i64.wrap (((d'++[q]).length:Int)-1)=(d'.length:Int):=by
     rw [wrap64]<;>simp at *<;>omega
    refine .inr ⟨q,by simp<;>omega,?_,?_,by simp [lastT]⟩
    ·rw [this];simp
    ·rw [this];simp
  have hfl:=c_fields W0 p (by unfold SLim;omega) (by unfold SLim;omega)
  rw [Part.enc_eq] at hfl
  have hsel:=c_sSel W0 p.kind
  have ew:IntKind.i64.wrap (d+1)=d+1:=wrap64 (by omega) (by omega)
  rw [p.chk_eq] at hd
  have hx:∀k j (X:Ent),∀q∈[((n'+1+k,j),X)]++[((n0,4),Ent.box (.agg [.arr id]))],q.1≠id:=by
   intro k j X q hq
   simp at hq
   rcases hq with rfl|rfl
   all_goals simp [f1,f3]
  have h8:d<8/\decide (d>=8)=false\/decide (d>=8)=true:=by
   by_cases h:d<8
   ·exact .inl ⟨h,by simp;omega⟩
   ·exact .inr (by simp;omega)
  by_cases k11:p.kind=11
  ·have hin:=fun (h8:d<8)=>ih p.parts (d+1) c l' id (by omega) (by omega) (by omega) (by omega)
   have s11:selB 11=false:=rfl
   have q1:(p.kind == 1)=false:=by rw [k11];rfl
   rw [k11] at hd hfl hsel
   rw [s11] at hsel hd
   clear hlp
   generalize p.fieldsB=FB at *
   generalize chkPs p.parts (d+1) c false l'=R at *
   obtain ⟨rb,rl⟩:=R
   cases FB
   ·simp only [bq,if_true,if_false,Int.reduceBEq,reduceCtorEq] at hd
    simp only [push_cast,seval,reduceEqDiff,hz,f1,f1',f3,f3',wrap_zip p (done:=done) (by omega),ew,k11,Int.reduceBEq,Int.reduceBNe]
    repeat' (first|(((first|apply condU_s|apply gdU_t|apply gdU_f)<;>intro _h)<;>simp only [push_cast,seval,reduceEqDiff,_h,hz,f1,f1',f3,f3',wrap_zip p (done:=done) (by omega),ew,k11,Int.reduceBEq,Int.reduceBNe])|((first|refine c_call (by exact hfl) ?_|refine c_call (by exact hsel) ?_);simp only [push_cast,seval,reduceEqDiff,hz,f1,f1',f3,f3',wrap_zip p (done:=done) (by omega),ew,k11,Int.reduceBEq,Int.reduceBNe])|intro _)
    all_goals (first|(subst hd;refine finW_retS (by simp [get]) ?_;first|exact sub_hd|exact sub_2 (f3 _ _))|exact ⟨_,_,Nat.lt_succ_self _,StLe.dropM (by simp [lk]) (Nat.le_refl _),done++[p],rest,_,_,by simp,rfl,by rw [hlt,q1];exact hd,by omega,rfl⟩|exact ⟨_,_,Nat.lt_succ_self _,StLe.drop1 (by simp [lk,f3']) (Nat.le_refl _),done++[p],rest,_,_,by simp,rfl,by rw [hlt,q1];exact hd,by omega,rfl⟩|skip)
   ·rcases h8 with ⟨h8,e8⟩|e8
    ·cases rb
     all_goals
      rw [e8] at hd
      simp only [bq,if_true,if_false,Int.reduceBEq,reduceCtorEq] at hd
      skip
      simp only [push_cast,seval,reduceEqDiff,hz,f1,f1',f3,f3',wrap_zip p (done:=done) (by omega),ew,k11,Int.reduceBEq,Int.reduceBNe,e8]
      repeat' (first|(((first|apply condU_s|apply gdU_t|apply gdU_f)<;>intro _h)<;>simp only [push_cast,seval,reduceEqDiff,_h,hz,f1,f1',f3,f3',wrap_zip p (done:=done) (by omega),ew,k11,Int.reduceBEq,Int.reduceBNe,e8])|((first|refine c_call (by exact hfl) ?_|refine c_call (by exact hsel) ?_);simp only [push_cast,seval,reduceEqDiff,hz,f1,f1',f3,f3',wrap_zip p (done:=done) (by omega),ew,k11,Int.reduceBEq,Int.reduceBNe,e8])|intro _)
      all_goals (refine c_calls_n (pre:=[_]) (hin h8) (hx _ _ _) ?_;simp only [push_cast,seval,reduceEqDiff,hz,f1,f1',f3,f3',wrap_zip p (done:=done) (by omega),ew,k11,Int.reduceBEq,Int.reduceBNe,e8])
      repeat' (first|(((first|apply condU_s|apply gdU_t|apply gdU_f)<;>intro _h)<;>simp only [push_cast,seval,reduceEqDiff,_h,hz,f1,f1',f3,f3',wrap_zip p (done:=done) (by omega),ew,k11,Int.reduceBEq,Int.reduceBNe,e8])|(refine c_call (by exact hsel) ?_;simp only [push_cast,seval,reduceEqDiff,hz,f1,f1',f3,f3',wrap_zip p (done:=done) (by omega),ew,k11,Int.reduceBEq,Int.reduceBNe,e8])|intro _)
      all_goals (first|(subst hd;refine finW_retS (by simp [get]) ?_;first|exact sub_hd|exact sub_2 (f3 _ _))|exact ⟨_,_,Nat.lt_succ_self _,StLe.dropM (by simp [lk]) (Nat.le_refl _),done++[p],rest,_,_,by simp,rfl,by rw [hlt,q1];exact hd,by omega,rfl⟩|exact ⟨_,_,Nat.lt_succ_self _,StLe.drop1 (by simp [lk,f3']) (Nat.le_refl _),done++[p],rest,_,_,by simp,rfl,by rw [hlt,q1];exact hd,by omega,rfl⟩|skip)
    ·rw [e8] at hd
     simp only [bq,if_true,if_false,Int.reduceBEq,reduceCtorEq] at hd
     simp only [push_cast,seval,reduceEqDiff,hz,f1,f1',f3,f3',wrap_zip p (done:=done) (by omega),ew,k11,Int.reduceBEq,Int.reduceBNe,e8]
     repeat' (first|(((first|apply condU_s|apply gdU_t|apply gdU_f)<;>intro _h)<;>simp only [push_cast,seval,reduceEqDiff,_h,hz,f1,f1',f3,f3',wrap_zip p (done:=done) (by omega),ew,k11,Int.reduceBEq,Int.reduceBNe,e8])|((first|refine c_call (by exact hfl) ?_|refine c_call (by exact hsel) ?_);simp only [push_cast,seval,reduceEqDiff,hz,f1,f1',f3,f3',wrap_zip p (done:=done) (by omega),ew,k11,Int.reduceBEq,Int.reduceBNe,e8])|intro _)
     all_goals (first|(subst hd;refine finW_retS (by simp [get]) ?_;first|exact sub_hd|exact sub_2 (f3 _ _))|exact ⟨_,_,Nat.lt_succ_self _,StLe.dropM (by simp [lk]) (Nat.le_refl _),done++[p],rest,_,_,by simp,rfl,by rw [hlt,q1];exact hd,by omega,rfl⟩|exact ⟨_,_,Nat.lt_succ_self _,StLe.drop1 (by simp [lk,f3']) (Nat.le_refl _),done++[p],rest,_,_,by simp,rfl,by rw [hlt,q1];exact hd,by omega,rfl⟩|skip)
  ·have q11:(p.kind == 11)=false:=by simpa using k11
   have qn:(p.kind != 11)=true:=by simp [bne,q11]
   rcases Bool.eq_false_or_eq_true (selB p.kind) with hs|hs
   ·obtain ⟨q1,q10,_,_⟩:=selB_not hs
    have hin:=fun (h8:d<8)=>c_cases W0 p (d+1) c l' id (by omega) (fun x hx l=>ih x.2 (d+1) _ l id (by have:=wtCs_mem hx;omega) (by have:=wtCs_mem hx;omega) (by omega) (by omega))
    clear hlp ih
    rw [Part.enc_eq] at hin
    rw [hs] at hsel hd
    simp only [bq,if_true,if_false,Int.reduceBEq,reduceCtorEq,q1,q10,q11] at hd
    generalize p.fieldsB=FB at *
    generalize chkCs p.cases p.kind (d+1) c p.cases.length [] l'=R at *
    obtain ⟨rb,rl⟩:=R
    cases FB
    ·simp only [bq,if_true,if_false,Int.reduceBEq,reduceCtorEq,q1,q10,q11] at hd
     simp only [push_cast,seval,reduceEqDiff,hz,f1,f1',f3,f3',wrap_zip p (done:=done) (by omega),ew,q1,q10,q11,qn,Int.reduceBEq,Int.reduceBNe]
     repeat' (first|(((first|apply condU_s|apply gdU_t|apply gdU_f)<;>intro _h)<;>simp only [push_cast,seval,reduceEqDiff,_h,hz,f1,f1',f3,f3',wrap_zip p (done:=done) (by omega),ew,q1,q10,q11,qn,Int.reduceBEq,Int.reduceBNe])|((first|refine c_call (by exact hfl) ?_|refine c_call (by exact hsel) ?_);simp only [push_cast,seval,reduceEqDiff,hz,f1,f1',f3,f3',wrap_zip p (done:=done) (by omega),ew,q1,q10,q11,qn,Int.reduceBEq,Int.reduceBNe])|intro _)
     all_goals (first|(subst hd;refine finW_retS (by simp [get]) ?_;first|exact sub_hd|exact sub_2 (f3 _ _))|exact ⟨_,_,Nat.lt_succ_self _,StLe.dropM (by simp [lk]) (Nat.le_refl _),done++[p],rest,_,_,by simp,rfl,by rw [hlt,q1];exact hd,by omega,rfl⟩|exact ⟨_,_,Nat.lt_succ_self _,StLe.drop1 (by simp [lk,f3']) (Nat.le_refl _),done++[p],rest,_,_,by simp,rfl,by rw [hlt,q1];exact hd,by omega,rfl⟩|skip)
    ·rcases h8 with ⟨h8,e8⟩|e8
     ·simp only [bq,if_true,if_false,Int.reduceBEq,reduceCtorEq,e8] at hd
      cases rb
      ·simp only [bq,if_true,if_false,Int.reduceBEq,reduceCtorEq] at hd
       simp only [push_cast,seval,reduceEqDiff,hz,f1,f1',f3,f3',wrap_zip p (done:=done) (by omega),ew,q1,q10,q11,qn,Int.reduceBEq,Int.reduceBNe,e8]
       repeat' (first|(((first|apply condU_s|apply gdU_t|apply gdU_f)<;>intro _h)<;>simp only [push_cast,seval,reduceEqDiff,_h,hz,f1,f1',f3,f3',wrap_zip p (done:=done) (by omega),ew,q1,q10,q11,qn,Int.reduceBEq,Int.reduceBNe,e8])|((first|refine c_call (by exact hfl) ?_|refine c_call (by exact hsel) ?_);simp only [push_cast,seval,reduceEqDiff,hz,f1,f1',f3,f3',wrap_zip p (done:=done) (by omega),ew,q1,q10,q11,qn,Int.reduceBEq,Int.reduceBNe,e8])|intro _)
       all_goals (refine c_calls_n (pre:=[_]) (hin h8) (hx _ _ _) ?_;simp only [push_cast,seval,reduceEqDiff,hz,f1,f1',f3,f3',wrap_zip p (done:=done) (by omega),ew,q1,q10,q11,qn,Int.reduceBEq,Int.reduceBNe,e8])
       repeat' (first|(((first|apply condU_s|apply gdU_t|apply gdU_f)<;>intro _h)<;>simp only [push_cast,seval,reduceEqDiff,_h,hz,f1,f1',f3,f3',wrap_zip p (done:=done) (by omega),ew,q1,q10,q11,qn,Int.reduceBEq,Int.reduceBNe,e8])|intro _)
       all_goals (first|(subst hd;refine finW_retS (by simp [get]) ?_;first|exact sub_hd|exact sub_2 (f3 _ _))|exact ⟨_,_,Nat.lt_succ_self _,StLe.dropM (by simp [lk]) (Nat.le_refl _),done++[p],rest,_,_,by simp,rfl,by rw [hlt,q1];exact hd,by omega,rfl⟩|exact ⟨_,_,Nat.lt_succ_self _,StLe.drop1 (by simp [lk,f3']) (Nat.le_refl _),done++[p],rest,_,_,by simp,rfl,by rw [hlt,q1];exact hd,by omega,rfl⟩|skip)
      ·simp only [bq,if_true,if_false,Int.reduceBEq,reduceCtorEq] at hd
       rcases Bool.eq_false_or_eq_true (p.name == []) with hn|hn
       ·simp only [bq,if_true,if_false,Int.reduceBEq,reduceCtorEq,hn] at hd
        simp only [push_cast,seval,reduceEqDiff,hz,f1,f1',f3,f3',wrap_zip p (done:=done) (by omega),ew,q1,q10,q11,qn,Int.reduceBEq,Int.reduceBNe,e8,hn]
        repeat' (first|(((first|apply condU_s|apply gdU_t|apply gdU_f)<;>intro _h)<;>simp only [push_cast,seval,reduceEqDiff,_h,hz,f1,f1',f3,f3',wrap_zip p (done:=done) (by omega),ew,q1,q10,q11,qn,Int.reduceBEq,Int.reduceBNe,e8,hn])|((first|refine c_call (by exact hfl) ?_|refine c_call (by exact hsel) ?_);simp only [push_cast,seval,reduceEqDiff,hz,f1,f1',f3,f3',wrap_zip p (done:=done) (by omega),ew,q1,q10,q11,qn,Int.reduceBEq,Int.reduceBNe,e8,hn])|intro _)
        all_goals (refine c_calls_n (pre:=[_]) (hin h8) (hx _ _ _) ?_;simp only [push_cast,seval,reduceEqDiff,hz,f1,f1',f3,f3',wrap_zip p (done:=done) (by omega),ew,q1,q10,q11,qn,Int.reduceBEq,Int.reduceBNe,e8,hn])
        repeat' (first|(((first|apply condU_s|apply gdU_t|apply gdU_f)<;>intro _h)<;>simp only [push_cast,seval,reduceEqDiff,_h,hz,f1,f1',f3,f3',wrap_zip p (done:=done) (by omega),ew,q1,q10,q11,qn,Int.reduceBEq,Int.reduceBNe,e8,hn])|intro _)
        all_goals (first|(subst hd;refine finW_retS (by simp [get]) ?_;first|exact sub_hd|exact sub_2 (f3 _ _))|exact ⟨_,_,Nat.lt_succ_self _,StLe.dropM (by simp [lk]) (Nat.le_refl _),done++[p],rest,_,_,by simp,rfl,by rw [hlt,q1];exact hd,by omega,rfl⟩|exact ⟨_,_,Nat.lt_succ_self _,StLe.drop1 (by simp [lk,f3']) (Nat.le_refl _),done++[p],rest,_,_,by simp,rfl,by rw [hlt,q1];exact hd,by omega,rfl⟩|skip)
       ·simp only [bq,if_true,if_false,Int.reduceBEq,reduceCtorEq,hn] at hd
        rcases set_cases p.name rl with ⟨_,hpu,i,h2,h3⟩|⟨_,hpu,h2⟩
        ·rw [hpu] at hd
         simp only [push_cast,seval,reduceEqDiff,hz,f1,f1',f3,f3',wrap_zip p (done:=done) (by omega),ew,q1,q10,q11,qn,Int.reduceBEq,Int.reduceBNe,e8,hn,h2,h3]
         repeat' (first|(((first|apply condU_s|apply gdU_t|apply gdU_f)<;>intro _h)<;>simp only [push_cast,seval,reduceEqDiff,_h,hz,f1,f1',f3,f3',wrap_zip p (done:=done) (by omega),ew,q1,q10,q11,qn,Int.reduceBEq,Int.reduceBNe,e8,hn,h2,h3])|((first|refine c_call (by exact hfl) ?_|refine c_call (by exact hsel) ?_);simp only [push_cast,seval,reduceEqDiff,hz,f1,f1',f3,f3',wrap_zip p (done:=done) (by omega),ew,q1,q10,q11,qn,Int.reduceBEq,Int.reduceBNe,e8,hn,h2,h3])|intro _)
         all_goals (refine c_calls_n (pre:=[_]) (hin h8) (hx _ _ _) ?_;simp only [push_cast,seval,reduceEqDiff,hz,f1,f1',f3,f3',wrap_zip p (done:=done) (by omega),ew,q1,q10,q11,qn,Int.reduceBEq,Int.reduceBNe,e8,hn,h2,h3])
         repeat' (first|(((first|apply condU_s|apply gdU_t|apply gdU_f)<;>intro _h)<;>simp only [push_cast,seval,reduceEqDiff,_h,hz,f1,f1',f3,f3',wrap_zip p (done:=done) (by omega),ew,q1,q10,q11,qn,Int.reduceBEq,Int.reduceBNe,e8,hn,h2,h3])|intro _)
         all_goals (first|(subst hd;refine finW_retS (by simp [get]) ?_;first|exact sub_hd|exact sub_2 (f3 _ _))|exact ⟨_,_,Nat.lt_succ_self _,StLe.dropM (by simp [lk]) (Nat.le_refl _),done++[p],rest,_,_,by simp,rfl,by rw [hlt,q1];exact hd,by omega,rfl⟩|exact ⟨_,_,Nat.lt_succ_self _,StLe.drop1 (by simp [lk,f3']) (Nat.le_refl _),done++[p],rest,_,_,by simp,rfl,by rw [hlt,q1];exact hd,by omega,rfl⟩|skip)
        ·rw [hpu] at hd
         simp only [push_cast,seval,reduceEqDiff,hz,f1,f1',f3,f3',wrap_zip p (done:=done) (by omega),ew,q1,q10,q11,qn,Int.reduceBEq,Int.reduceBNe,e8,hn,h2,setE_snoc]
         repeat' (first|(((first|apply condU_s|apply gdU_t|apply gdU_f)<;>intro _h)<;>simp only [push_cast,seval,reduceEqDiff,_h,hz,f1,f1',f3,f3',wrap_zip p (done:=done) (by omega),ew,q1,q10,q11,qn,Int.reduceBEq,Int.reduceBNe,e8,hn,h2,setE_snoc])|((first|refine c_call (by exact hfl) ?_|refine c_call (by exact hsel) ?_);simp only [push_cast,seval,reduceEqDiff,hz,f1,f1',f3,f3',wrap_zip p (done:=done) (by omega),ew,q1,q10,q11,qn,Int.reduceBEq,Int.reduceBNe,e8,hn,h2,setE_snoc])|intro _)
         all_goals (refine c_calls_n (pre:=[_]) (hin h8) (hx _ _ _) ?_;simp only [push_cast,seval,reduceEqDiff,hz,f1,f1',f3,f3',wrap_zip p (done:=done) (by omega),ew,q1,q10,q11,qn,Int.reduceBEq,Int.reduceBNe,e8,hn,h2,setE_snoc])
         repeat' (first|(((first|apply condU_s|apply gdU_t|apply gdU_f)<;>intro _h)<;>simp only [push_cast,seval,reduceEqDiff,_h,hz,f1,f1',f3,f3',wrap_zip p (done:=done) (by omega),ew,q1,q10,q11,qn,Int.reduceBEq,Int.reduceBNe,e8,hn,h2,setE_snoc])|intro _)
         all_goals (first|(subst hd;refine finW_retS (by simp [get]) ?_;first|exact sub_hd|exact sub_2 (f3 _ _))|exact ⟨_,_,Nat.lt_succ_self _,StLe.dropM (by simp [lk]) (Nat.le_refl _),done++[p],rest,_,_,by simp,rfl,by rw [hlt,q1];exact hd,by omega,rfl⟩|exact ⟨_,_,Nat.lt_succ_self _,StLe.drop1 (by simp [lk,f3']) (Nat.le_refl _),done++[p],rest,_,_,by simp,rfl,by rw [hlt,q1];exact hd,by omega,rfl⟩|skip)
     ·simp only [bq,if_true,if_false,Int.reduceBEq,reduceCtorEq,e8] at hd
      simp only [push_cast,seval,reduceEqDiff,hz,f1,f1',f3,f3',wrap_zip p (done:=done) (by omega),ew,q1,q10,q11,qn,Int.reduceBEq,Int.reduceBNe,e8]
      repeat' (first|(((first|apply condU_s|apply gdU_t|apply gdU_f)<;>intro _h)<;>simp only [push_cast,seval,reduceEqDiff,_h,hz,f1,f1',f3,f3',wrap_zip p (done:=done) (by omega),ew,q1,q10,q11,qn,Int.reduceBEq,Int.reduceBNe,e8])|((first|refine c_call (by exact hfl) ?_|refine c_call (by exact hsel) ?_);simp only [push_cast,seval,reduceEqDiff,hz,f1,f1',f3,f3',wrap_zip p (done:=done) (by omega),ew,q1,q10,q11,qn,Int.reduceBEq,Int.reduceBNe,e8])|intro _)
      all_goals (first|(subst hd;refine finW_retS (by simp [get]) ?_;first|exact sub_hd|exact sub_2 (f3 _ _))|exact ⟨_,_,Nat.lt_succ_self _,StLe.dropM (by simp [lk]) (Nat.le_refl _),done++[p],rest,_,_,by simp,rfl,by rw [hlt,q1];exact hd,by omega,rfl⟩|exact ⟨_,_,Nat.lt_succ_self _,StLe.drop1 (by simp [lk,f3']) (Nat.le_refl _),done++[p],rest,_,_,by simp,rfl,by rw [hlt,q1];exact hd,by omega,rfl⟩|skip)
   ·clear ih
    rw [hs] at hsel hd
    generalize p.fieldsB=FB at *
    cases FB
    ·simp only [bq,if_true,if_false,Int.reduceBEq,reduceCtorEq,q11] at hd
     simp only [push_cast,seval,reduceEqDiff,hz,f1,f1',f3,f3',wrap_zip p (done:=done) (by omega),ew,q11,qn,Int.reduceBEq,Int.reduceBNe]
     repeat' (first|(((first|apply condU_s|apply gdU_t|apply gdU_f)<;>intro _h)<;>simp only [push_cast,seval,reduceEqDiff,_h,hz,f1,f1',f3,f3',wrap_zip p (done:=done) (by omega),ew,q11,qn,Int.reduceBEq,Int.reduceBNe])|((first|refine c_call (by exact hfl) ?_|refine c_call (by exact hsel) ?_);simp only [push_cast,seval,reduceEqDiff,hz,f1,f1',f3,f3',wrap_zip p (done:=done) (by omega),ew,q11,qn,Int.reduceBEq,Int.reduceBNe])|intro _)
     all_goals (first|(subst hd;refine finW_retS (by simp [get]) ?_;first|exact sub_hd|exact sub_2 (f3 _ _))|exact ⟨_,_,Nat.lt_succ_self _,StLe.dropM (by simp [lk]) (Nat.le_refl _),done++[p],rest,_,_,by simp,rfl,by rw [hlt];exact hd,by omega,rfl⟩|exact ⟨_,_,Nat.lt_succ_self _,StLe.drop1 (by simp [lk,f3']) (Nat.le_refl _),done++[p],rest,_,_,by simp,rfl,by rw [hlt];exact hd,by omega,rfl⟩|skip)
    ·simp only [bq,if_true,if_false,Int.reduceBEq,reduceCtorEq,q11] at hd
     generalize hG:chkPs rest d c (p.kind == 1)=G at hd
     rcases hlp with ⟨e1,hl⟩|⟨q,e1,e2,e3,hl⟩
     case' inl=>
      have e2:=e1
      have e3:=e1
     all_goals rw [hl] at hd
     all_goals rcases Bool.eq_false_or_eq_true (p.name == []) with hn|hn
     ·simp only [bq,if_true,if_false,Int.reduceBEq,reduceCtorEq,hn] at hd
      skip
      simp only [push_cast,seval,reduceEqDiff,hz,f1,f1',f3,f3',wrap_zip p (done:=done) (by omega),ew,q11,qn,Int.reduceBEq,Int.reduceBNe,e1,e2,e3,hn]
      repeat' (first|(((first|apply condU_s|apply gdU_t|apply gdU_f)<;>intro _h)<;>simp only [push_cast,seval,reduceEqDiff,_h,hz,f1,f1',f3,f3',wrap_zip p (done:=done) (by omega),ew,q11,qn,Int.reduceBEq,Int.reduceBNe,e1,e2,e3,hn])|((first|refine c_call (by exact hfl) ?_|refine c_call (by exact hsel) ?_);simp only [push_cast,seval,reduceEqDiff,hz,f1,f1',f3,f3',wrap_zip p (done:=done) (by omega),ew,q11,qn,Int.reduceBEq,Int.reduceBNe,e1,e2,e3,hn])|intro _)
      all_goals (try simp only [Bool.not_eq_true',Bool.not_eq_false'] at *)
      all_goals (try simp only [*,bq,if_true,if_false,Int.reduceBEq,reduceCtorEq] at hd)
      all_goals (first|(subst hd;refine finW_retS (by simp [get]) ?_;first|exact sub_hd|exact sub_2 (f3 _ _))|exact ⟨_,_,Nat.lt_succ_self _,StLe.dropM (by simp [lk]) (Nat.le_refl _),done++[p],rest,_,_,by simp,rfl,by rw [hlt,hG];exact hd,by omega,rfl⟩|exact ⟨_,_,Nat.lt_succ_self _,StLe.drop1 (by simp [lk,f3']) (Nat.le_refl _),done++[p],rest,_,_,by simp,rfl,by rw [hlt,hG];exact hd,by omega,rfl⟩|skip)
     ·rcases set_cases p.name l' with ⟨_,hpu,i,h2,h3⟩|⟨_,hpu,h2⟩
      all_goals simp only [bq,if_true,if_false,Int.reduceBEq,reduceCtorEq,hn,hpu] at hd
      ·skip
       simp only [push_cast,seval,reduceEqDiff,hz,f1,f1',f3,f3',wrap_zip p (done:=done) (by omega),ew,q11,qn,Int.reduceBEq,Int.reduceBNe,e1,e2,e3,hn,h2,h3]
       repeat' (first|(((first|apply condU_s|apply gdU_t|apply gdU_f)<;>intro _h)<;>simp only [push_cast,seval,reduceEqDiff,_h,hz,f1,f1',f3,f3',wrap_zip p (done:=done) (by omega),ew,q11,qn,Int.reduceBEq,Int.reduceBNe,e1,e2,e3,hn,h2,h3])|((first|refine c_call (by exact hfl) ?_|refine c_call (by exact hsel) ?_);simp only [push_cast,seval,reduceEqDiff,hz,f1,f1',f3,f3',wrap_zip p (done:=done) (by omega),ew,q11,qn,Int.reduceBEq,Int.reduceBNe,e1,e2,e3,hn,h2,h3])|intro _)
       all_goals (try simp only [Bool.not_eq_true',Bool.not_eq_false'] at *)
       all_goals (try simp only [*,bq,if_true,if_false,Int.reduceBEq,reduceCtorEq] at hd)
       all_goals (first|(subst hd;refine finW_retS (by simp [get]) ?_;first|exact sub_hd|exact sub_2 (f3 _ _))|exact ⟨_,_,Nat.lt_succ_self _,StLe.dropM (by simp [lk]) (Nat.le_refl _),done++[p],rest,_,_,by simp,rfl,by rw [hlt,hG];exact hd,by omega,rfl⟩|exact ⟨_,_,Nat.lt_succ_self _,StLe.drop1 (by simp [lk,f3']) (Nat.le_refl _),done++[p],rest,_,_,by simp,rfl,by rw [hlt,hG];exact hd,by omega,rfl⟩|skip)
      ·skip
       simp only [push_cast,seval,reduceEqDiff,hz,f1,f1',f3,f3',wrap_zip p (done:=done) (by omega),ew,q11,qn,Int.reduceBEq,Int.reduceBNe,e1,e2,e3,hn,h2,setE_snoc]
       repeat' (first|(((first|apply condU_s|apply gdU_t|apply gdU_f)<;>intro _h)<;>simp only [push_cast,seval,reduceEqDiff,_h,hz,f1,f1',f3,f3',wrap_zip p (done:=done) (by omega),ew,q11,qn,Int.reduceBEq,Int.reduceBNe,e1,e2,e3,hn,h2,setE_snoc])|((first|refine c_call (by exact hfl) ?_|refine c_call (by exact hsel) ?_);simp only [push_cast,seval,reduceEqDiff,hz,f1,f1',f3,f3',wrap_zip p (done:=done) (by omega),ew,q11,qn,Int.reduceBEq,Int.reduceBNe,e1,e2,e3,hn,h2,setE_snoc])|intro _)
       all_goals (try simp only [Bool.not_eq_true',Bool.not_eq_false'] at *)
       all_goals (try simp only [*,bq,if_true,if_false,Int.reduceBEq,reduceCtorEq] at hd)
       all_goals (first|(subst hd;refine finW_retS (by simp [get]) ?_;first|exact sub_hd|exact sub_2 (f3 _ _))|exact ⟨_,_,Nat.lt_succ_self _,StLe.dropM (by simp [lk]) (Nat.le_refl _),done++[p],rest,_,_,by simp,rfl,by rw [hlt,hG];exact hd,by omega,rfl⟩|exact ⟨_,_,Nat.lt_succ_self _,StLe.drop1 (by simp [lk,f3']) (Nat.le_refl _),done++[p],rest,_,_,by simp,rfl,by rw [hlt,hG];exact hd,by omega,rfl⟩|skip)
     ·simp only [bq,if_true,if_false,Int.reduceBEq,reduceCtorEq,hn] at hd
      skip
      simp only [push_cast,seval,reduceEqDiff,hz,f1,f1',f3,f3',wrap_zip p (done:=done) (by omega),ew,q11,qn,Int.reduceBEq,Int.reduceBNe,e1,e2,e3,hn]
      repeat' (first|(((first|apply condU_s|apply gdU_t|apply gdU_f)<;>intro _h)<;>simp only [push_cast,seval,reduceEqDiff,_h,hz,f1,f1',f3,f3',wrap_zip p (done:=done) (by omega),ew,q11,qn,Int.reduceBEq,Int.reduceBNe,e1,e2,e3,hn])|((first|refine c_call (by exact hfl) ?_|refine c_call (by exact hsel) ?_);simp only [push_cast,seval,reduceEqDiff,hz,f1,f1',f3,f3',wrap_zip p (done:=done) (by omega),ew,q11,qn,Int.reduceBEq,Int.reduceBNe,e1,e2,e3,hn])|intro _)
      all_goals (try simp only [Bool.not_eq_true',Bool.not_eq_false'] at *)
      all_goals (try simp only [*,bq,if_true,if_false,Int.reduceBEq,reduceCtorEq] at hd)
      all_goals (first|(subst hd;refine finW_retS (by simp [get]) ?_;first|exact sub_hd|exact sub_2 (f3 _ _))|exact ⟨_,_,Nat.lt_succ_self _,StLe.dropM (by simp [lk]) (Nat.le_refl _),done++[p],rest,_,_,by simp,rfl,by rw [hlt,hG];exact hd,by omega,rfl⟩|exact ⟨_,_,Nat.lt_succ_self _,StLe.drop1 (by simp [lk,f3']) (Nat.le_refl _),done++[p],rest,_,_,by simp,rfl,by rw [hlt,hG];exact hd,by omega,rfl⟩|skip)
     ·rcases set_cases p.name l' with ⟨_,hpu,i,h2,h3⟩|⟨_,hpu,h2⟩
      all_goals simp only [bq,if_true,if_false,Int.reduceBEq,reduceCtorEq,hn,hpu] at hd
      ·skip
       simp only [push_cast,seval,reduceEqDiff,hz,f1,f1',f3,f3',wrap_zip p (done:=done) (by omega),ew,q11,qn,Int.reduceBEq,Int.reduceBNe,e1,e2,e3,hn,h2,h3]
       repeat' (first|(((first|apply condU_s|apply gdU_t|apply gdU_f)<;>intro _h)<;>simp only [push_cast,seval,reduceEqDiff,_h,hz,f1,f1',f3,f3',wrap_zip p (done:=done) (by omega),ew,q11,qn,Int.reduceBEq,Int.reduceBNe,e1,e2,e3,hn,h2,h3])|((first|refine c_call (by exact hfl) ?_|refine c_call (by exact hsel) ?_);simp only [push_cast,seval,reduceEqDiff,hz,f1,f1',f3,f3',wrap_zip p (done:=done) (by omega),ew,q11,qn,Int.reduceBEq,Int.reduceBNe,e1,e2,e3,hn,h2,h3])|intro _)
       all_goals (try simp only [Bool.not_eq_true',Bool.not_eq_false'] at *)
       all_goals (try simp only [*,bq,if_true,if_false,Int.reduceBEq,reduceCtorEq] at hd)
       all_goals (first|(subst hd;refine finW_retS (by simp [get]) ?_;first|exact sub_hd|exact sub_2 (f3 _ _))|exact ⟨_,_,Nat.lt_succ_self _,StLe.dropM (by simp [lk]) (Nat.le_refl _),done++[p],rest,_,_,by simp,rfl,by rw [hlt,hG];exact hd,by omega,rfl⟩|exact ⟨_,_,Nat.lt_succ_self _,StLe.drop1 (by simp [lk,f3']) (Nat.le_refl _),done++[p],rest,_,_,by simp,rfl,by rw [hlt,hG];exact hd,by omega,rfl⟩|skip)
      ·skip
       simp only [push_cast,seval,reduceEqDiff,hz,f1,f1',f3,f3',wrap_zip p (done:=done) (by omega),ew,q11,qn,Int.reduceBEq,Int.reduceBNe,e1,e2,e3,hn,h2,setE_snoc]
       repeat' (first|(((first|apply condU_s|apply gdU_t|apply gdU_f)<;>intro _h)<;>simp only [push_cast,seval,reduceEqDiff,_h,hz,f1,f1',f3,f3',wrap_zip p (done:=done) (by omega),ew,q11,qn,Int.reduceBEq,Int.reduceBNe,e1,e2,e3,hn,h2,setE_snoc])|((first|refine c_call (by exact hfl) ?_|refine c_call (by exact hsel) ?_);simp only [push_cast,seval,reduceEqDiff,hz,f1,f1',f3,f3',wrap_zip p (done:=done) (by omega),ew,q11,qn,Int.reduceBEq,Int.reduceBNe,e1,e2,e3,hn,h2,setE_snoc])|intro _)
       all_goals (try simp only [Bool.not_eq_true',Bool.not_eq_false'] at *)
       all_goals (try simp only [*,bq,if_true,if_false,Int.reduceBEq,reduceCtorEq] at hd)
       all_goals (first|(subst hd;refine finW_retS (by simp [get]) ?_;first|exact sub_hd|exact sub_2 (f3 _ _))|exact ⟨_,_,Nat.lt_succ_self _,StLe.dropM (by simp [lk]) (Nat.le_refl _),done++[p],rest,_,_,by simp,rfl,by rw [hlt,hG];exact hd,by omega,rfl⟩|exact ⟨_,_,Nat.lt_succ_self _,StLe.drop1 (by simp [lk,f3']) (Nat.le_refl _),done++[p],rest,_,_,by simp,rfl,by rw [hlt,hG];exact hd,by omega,rfl⟩|skip)
end Go.Ir
section
namespace Go.Ir
open Go.Proofs
variable (W0 : World)
def usesM:List (V × V):=[(.s [110,117,109,98,101,114],.i .i64 3),(.s [117,110,105,116],.i .i64 4),(.s [100,97,116,101],.i .i64 5),(.s [108,105,115,116],.i .i64 6),(.s [112,108,117,114,97,108],.i .i64 7),(.s [111,114,100,105,110,97,108],.i .i64 8),(.s [115,101,108,101,99,116],.i .i64 9)]
theorem c_uses:RetN Tryz.prog W0 155 [] [] (.map usesM) []:=by
 refine fn_newW (s:=0) f155ok (by simp) (by simp) fun n0 hn0=>?_
 clear hn0
 unfold usesM
 have u1:findV .str (.s [110,117,109,98,101,114]) [] 0=some none:=rfl
 have u2:findV .str (.s [117,110,105,116]) (usesM.take 1) 0=some none:=rfl
 have u3:findV .str (.s [100,97,116,101]) (usesM.take 2) 0=some none:=rfl
 have u4:findV .str (.s [108,105,115,116]) (usesM.take 3) 0=some none:=rfl
 have u5:findV .str (.s [112,108,117,114,97,108]) (usesM.take 4) 0=some none:=rfl
 have u6:findV .str (.s [111,114,100,105,110,97,108]) (usesM.take 5) 0=some none:=rfl
 have u7:findV .str (.s [115,101,108,101,99,116]) (usesM.take 6) 0=some none:=rfl
 simp only [usesM,List.take_succ_cons,List.take_zero] at u2 u3 u4 u5 u6 u7
 simp only [push_cast,seval,reduceEqDiff,u1,u2,u3,u4,u5,u6,u7]
 intros
 exact ⟨_,StLe.refl,_,rfl,by simp [lk],rfl,fun _ _ h=>by simp [lk] at h⟩
def useN (k:Int):Nat:=if decide (k>=3)&&decide (k<=9) then 2+(useW k).length else 0
mutual
def Part.lenB:Part->Nat
 | ⟨k,t,nm,st,cs,ps⟩=>
  if k == 1 then (escB t).length
  else if k == 10 then 1
  else if k == 11 then (3+nm.length)+(if ps.isEmpty then 0 else (2+nm.length)+lenPs ps)
  else (2+nm.length)+useN k+(if st == [] then 0 else 2+st.length)+(if selB k then 1 else 0)+lenCs cs
def lenPs:List Part->Nat
 | []=>0
 | p::ps=>p.lenB+lenPs ps
def lenCs:List (Bytes × List Part)->Nat
 | []=>0
 | (key,ps)::cs=>((4+key.length)+lenPs ps)+lenCs cs
end
theorem Part.lenB_eq (p:Part):p.lenB=(if p.kind == 1 then (escB p.text).length
  else if p.kind == 10 then 1
  else if p.kind == 11 then (3+p.name.length)+(if p.parts.isEmpty then 0 else (2+p.name.length)+lenPs p.parts)
  else (2+p.name.length)+useN p.kind+(if p.style == [] then 0 else 2+p.style.length)+(if selB p.kind then 1 else 0)+lenCs p.cases):=by cases p;simp only [Part.lenB]
theorem lenPs_cons (p:Part) (ps:List Part):lenPs (p::ps)=p.lenB+lenPs ps:=by simp only [lenPs]
theorem lenCs_cons (c:Case) (cs:List Case):lenCs (c::cs)=((4+c.1.length)+lenPs c.2)+lenCs cs:=by obtain ⟨k,q⟩:=c;simp only [lenCs]
theorem useN_le (k:Int):useN k<=9:=by
 unfold useN;have:=useW_len k;split<;>omega
theorem Part.lenB_le1 (p:Part) (h1:lenPs p.parts<=20*wtPs p.parts) (h2:lenCs p.cases<=20*wtCs p.cases):p.lenB<=20*p.wt:=by
 rw [p.wt_eq,p.lenB_eq]
 have a1:=escB_len p.text
 have a2:=useN_le p.kind
 repeat' split
 all_goals omega
theorem lenPs_le0:∀(N:Nat) (ps:List Part),wtPs ps<N->lenPs ps<=20*wtPs ps:=by
 intro N
 induction N with
 | zero=>intro ps h;omega
 | succ N ih=>
  have hcs:∀cs:List Case,wtCs cs<N->lenCs cs<=20*wtCs cs:=by
   intro cs
   induction cs with
   | nil=>intro _;simp [lenCs]
   | cons c cs ih2=>
    intro h;rw [wtCs_cons] at h;rw [lenCs_cons,wtCs_cons]
    have:=ih c.2 (by omega);have:=ih2 (by omega)
    omega
  intro ps
  induction ps with
  | nil=>intro _;simp [lenPs]
  | cons p ps ih2=>
   intro h;rw [wtPs_cons] at h;rw [lenPs_cons,wtPs_cons];have h3:=ih2 (by omega)
   have hw:=p.wt_eq
   have:=p.lenB_le1 (ih p.parts (by omega)) (hcs p.cases (by omega))
   omega
theorem lenPs_le (ps:List Part):lenPs ps<=20*wtPs ps:=lenPs_le0 _ ps (Nat.lt_succ_self _)
theorem lenCs_le (cs:List Case):lenCs cs<=20*wtCs cs:=by
 induction cs with
 | nil=>simp [lenCs]
 | cons c cs ih=>rw [lenCs_cons,wtCs_cons];have:=lenPs_le c.2;omega
theorem Part.lenB_le (p:Part):p.lenB<=20*p.wt:=p.lenB_le1 (lenPs_le _) (lenCs_le _)
theorem uses_len:usesM.length=7:=rfl
theorem uses_at {i:Nat} {kv:V × V} (h:usesM[i]? = some kv):i<7/\kv=(.s (useW (i+3:Nat)),.i .i64 (i+3:Nat)):=by
 have hi:i<7:=by have:=(List.getElem?_eq_some_iff.1 h).1;rw [uses_len] at this;exact this
 refine ⟨hi,?_⟩
 have:i=0\/i=1\/i=2\/i=3\/i=4\/i=5\/i=6:=by omega
 rcases this with rfl|rfl|rfl|rfl|rfl|rfl|rfl<;>(simp only [usesM,List.getElem?_cons_zero,List.getElem?_cons_succ,Option.some.injEq] at h;rw [<-h];rfl)
def seenU (k:Int) (seen:List Nat):Nat:=if decide (k>=3)&&seen.contains (k-3).toNat then 2+(useW k).length else 0
theorem seenU_nil (k:Int):seenU k []=0:=by simp [seenU]
theorem seenU_hit {k:Int} {seen:List Nat} {i:Nat} (h:((i+3:Nat):Int)=k) (hn:i ∉ seen):seenU k seen=0/\seenU k (seen++[i])=2+(useW (i+3:Nat)).length:=by
 subst h
 have:(((i+3:Nat):Int)-3).toNat=i:=by omega
 have h3:((i+3:Nat):Int)>=3:=by omega
 unfold seenU
 rw [this]
 constructor
 ·rw [if_neg];simp [hn]
 ·rw [if_pos];simp;omega
theorem seenU_miss {k:Int} {seen:List Nat} {i:Nat} (h:((i+3:Nat):Int)≠k):seenU k (seen++[i])=seenU k seen:=by
 unfold seenU
 by_cases h3:k>=3
 ·have:(k-3).toNat≠i:=by omega
  simp [List.contains_append,this]
 ·simp [h3]
theorem seenU_end {k:Int} {seen:List Nat} (hall:∀i,i<7->i∈seen) (hb:∀i∈seen,i<7):seenU k seen=useN k:=by
 unfold seenU useN
 by_cases h3:k>=3
 ·by_cases h9:k<=9
  ·have:=hall (k-3).toNat (by omega)
   simp [h3,h9,this]
  ·have:(k-3).toNat ∉ seen:=fun h=>by have:=hb _ h;omega
   simp [h9,this]
 ·simp [h3]
def leftU (seen:List Nat):Nat:=(if 0∈seen then 0 else 1)+(if 1∈seen then 0 else 1)+(if 2∈seen then 0 else 1)+(if 3∈seen then 0 else 1)+(if 4∈seen then 0 else 1)+(if 5∈seen then 0 else 1)+(if 6∈seen then 0 else 1)
theorem leftU_lt {seen:List Nat} {i:Nat} (hi:i<7) (hn:i ∉ seen):leftU (seen++[i])<leftU seen:=by
 have:i=0\/i=1\/i=2\/i=3\/i=4\/i=5\/i=6:=by omega
 unfold leftU
 rcases this with rfl|rfl|rfl|rfl|rfl|rfl|rfl<;>simp [hn]
end Go.Ir
end
namespace Go.Ir
open Go.Proofs
variable (W0 : World)
set_option maxHeartbeats 4000000 in
theorem c_length:∀(N:Nat) (ps:List Part),wtPs ps<N->wtPs ps<=2^24->
  RetS Tryz.prog W0 120 [.sl (ps.map Part.enc)] [] (.i .i64 (lenPs ps)) []:=by
 intro N
 induction N with
 | zero=>intro ps h;omega
 | succ N ih=>
 intro ps hN hb
 have hlen:=len_wtPs ps
 generalize hS:lenPs ps=S
 refine fn_retW (vs:=[.i .i64 S]) f120ok (by simp) (by simp) fun n0 hn0=>?_
 clear hn0
 simp only [push_cast,seval,reduceEqDiff]
 intros
 refine aWP_loopW ps.length (Inv:=fun m st=>∃done rest n acc x,x=((acc:Nat):Int)/\ps=done++rest/\m=rest.length/\acc+lenPs rest=S/\acc+20*wtPs rest<=20*wtPs ps/\st=⟨[(3,.i .i64 x),(10,.sl (ps.map Part.enc)),(11,.i .i64 ps.length),(12,.i .i64 done.length)],[],n⟩) ⟨_,StLe.refl,[],ps,_,0,0,rfl,rfl,rfl,by omega,by omega,rfl⟩ ?_
 clear hS
 rintro m _ ⟨done,rest,n,acc,_,rfl,hz,rfl,hd,hacc,rfl⟩
 cases rest with
 | nil=>
  rw [lenPs,Nat.add_zero] at hd
  subst hd
  simp only [push_cast,seval,reduceEqDiff,hz]
  repeat' (first|(((first|apply condU_s|apply gdU_t|apply gdU_f)<;>intro _h)<;>simp only [push_cast,seval,reduceEqDiff,_h])|intro _)
  all_goals (first|(refine finW_ret ?_;simp [get]<;>(intros;omega);done)|(refine finW_rets ?_;simp [push_cast,get];done)|skip)
 | cons p rest=>
  have hbd:=zip_bd hz
  have hw:=wtPs_mem (ps:=ps) (p:=p) (by rw [hz];simp)
  rw [p.wt_eq] at hw
  rw [lenPs_cons,<-Nat.add_assoc] at hd
  rw [wtPs_cons,p.wt_eq] at hacc
  have htl:=p.lenB_le
  rw [p.wt_eq] at htl
  have hpl:=lenPs_le p.parts
  have hlc:=len_wtCs p.cases
  have hin:=ih p.parts (by omega) (by omega)
  have hsel:=c_sSel W0 p.kind
  rw [p.lenB_eq] at hd
  by_cases k1:p.kind=1
  ·have hes:=c_tEscape W0 p.text (by omega)
   have:=escB_len p.text
   rw [k1] at hd
   simp only [push_cast,seval,reduceEqDiff,hz,wrap_zip p (done:=done) (by omega),k1,Int.reduceBEq,Int.reduceBNe]
   repeat' (first|(((first|apply condU_s|apply gdU_t|apply gdU_f)<;>intro _h)<;>simp only [push_cast,seval,reduceEqDiff,_h,hz,wrap_zip p (done:=done) (by omega),k1,Int.reduceBEq,Int.reduceBNe])|((first|refine c_call (by exact hes) ?_|refine jp_i (by simp only [List.length_append,List.length_cons,List.length_nil,SLim]<;>omega) ?_);simp only [push_cast,seval,reduceEqDiff,hz,wrap_zip p (done:=done) (by omega),k1,Int.reduceBEq,Int.reduceBNe])|intro _)
   refine ⟨_,_,Nat.lt_succ_self _,StLe.drop1 rfl (Nat.le_refl _),done++[p],rest,_,acc+(escB p.text).length,_,by (try simp (disch:=omega) only [wrap64]);omega,by simp,rfl,by rw [<-hd];simp,by rw [<-hz];omega,rfl⟩
  by_cases k2:p.kind=10
  ·rw [k2] at hd
   simp only [push_cast,seval,reduceEqDiff,hz,wrap_zip p (done:=done) (by omega),k2,Int.reduceBEq,Int.reduceBNe]
   repeat' (first|(((first|apply condU_s|apply gdU_t|apply gdU_f)<;>intro _h)<;>simp only [push_cast,seval,reduceEqDiff,_h,hz,wrap_zip p (done:=done) (by omega),k2,Int.reduceBEq,Int.reduceBNe])|(refine jp_i (by simp only [List.length_append,List.length_cons,List.length_nil,SLim]<;>omega) ?_;simp only [push_cast,seval,reduceEqDiff,hz,wrap_zip p (done:=done) (by omega),k2,Int.reduceBEq,Int.reduceBNe])|intro _)
   refine ⟨_,_,Nat.lt_succ_self _,StLe.drop1 rfl (Nat.le_refl _),done++[p],rest,_,acc+1,_,by (try simp (disch:=omega) only [wrap64]);omega,by simp,rfl,by rw [<-hd];simp,by rw [<-hz];omega,rfl⟩
  by_cases k3:p.kind=11
  ·rw [k3] at hd
   rcases hps:p.parts with _|⟨q,qs⟩
   ·rw [hps] at hd
    simp only [push_cast,seval,reduceEqDiff,hz,wrap_zip p (done:=done) (by omega),k3,Int.reduceBEq,Int.reduceBNe,hps]
    repeat' (first|(((first|apply condU_s|apply gdU_t|apply gdU_f)<;>intro _h)<;>simp only [push_cast,seval,reduceEqDiff,_h,hz,wrap_zip p (done:=done) (by omega),k3,Int.reduceBEq,Int.reduceBNe,hps])|(refine jp_i (by simp only [List.length_append,List.length_cons,List.length_nil,SLim]<;>omega) ?_;simp only [push_cast,seval,reduceEqDiff,hz,wrap_zip p (done:=done) (by omega),k3,Int.reduceBEq,Int.reduceBNe,hps])|intro _)
    refine ⟨_,_,Nat.lt_succ_self _,StLe.drop1 rfl (Nat.le_refl _),done++[p],rest,_,acc+(3+p.name.length),_,by (try simp (disch:=omega) only [wrap64]);omega,by simp,rfl,by rw [<-hd];simp,by rw [<-hz];omega,rfl⟩
   ·have e1:decide ((p.parts.length:Int)>0)=true:=by rw [hps];simp<;>omega
    have e2:p.parts.isEmpty=false:=by rw [hps];rfl
    rw [e2] at hd
    clear hps
    simp only [push_cast,seval,reduceEqDiff,hz,wrap_zip p (done:=done) (by omega),k3,Int.reduceBEq,Int.reduceBNe,e1]
    repeat' (first|(((first|apply condU_s|apply gdU_t|apply gdU_f)<;>intro _h)<;>simp only [push_cast,seval,reduceEqDiff,_h,hz,wrap_zip p (done:=done) (by omega),k3,Int.reduceBEq,Int.reduceBNe,e1])|((first|refine c_call (by exact hin) ?_|refine jp_i (by simp only [List.length_append,List.length_cons,List.length_nil,SLim]<;>omega) ?_);simp only [push_cast,seval,reduceEqDiff,hz,wrap_zip p (done:=done) (by omega),k3,Int.reduceBEq,Int.reduceBNe,e1])|intro _)
    refine ⟨_,_,Nat.lt_succ_self _,StLe.drop1 rfl (Nat.le_refl _),done++[p],rest,_,acc+(3+p.name.length)+((2+p.name.length)+lenPs p.parts),_,by (try simp (disch:=omega) only [wrap64]);omega,by simp,rfl,by rw [<-hd];simp<;>omega,by rw [<-hz];omega,rfl⟩
  have q1:(p.kind == 1)=false:=by simpa using k1
  have q2:(p.kind == 10)=false:=by simpa using k2
  have q3:(p.kind == 11)=false:=by simpa using k3
  rw [q1,q2,q3] at hd
  simp only [bq,if_true,if_false,Int.reduceBEq,reduceCtorEq] at hd
  simp only [push_cast,seval,reduceEqDiff,hz,wrap_zip p (done:=done) (by omega),q1,q2,q3,Int.reduceBEq,Int.reduceBNe]
  intros
  refine c_calln (c_uses W0) (fun _ _ h=>by simp [lk] at h) ?_
  rw [over_nil]
  simp only [push_cast,seval,reduceEqDiff]
  intro kk
  have hul:=useW_len p.kind
  refine aWP_loopW (leftU []) (Inv:=fun m st=>∃seen n' x m0 b0,x=((acc+(2+p.name.length)+seenU p.kind seen:Nat):Int)/\m=leftU seen/\(∀i∈seen,i<7)/\st=⟨[(3,.i .i64 x),(5,.ref (b0,5) 0),(10,.sl (List.map Part.enc (done++p::rest))),(11,.i .i64 (done++p::rest).length),(12,.i .i64 done.length),(25,.arr (m0,25))],[((m0,25),.mit (m0,24) usesM.length seen usesM.length),((m0,24),.map usesM),((b0,5),.box p.v)],n'⟩) ⟨_,StLe.refl,[],_,_,_,_,by (simp (disch:=omega) only [wrap64,seenU_nil];omega),rfl,by simp,rfl⟩ ?_
  rintro m _ ⟨seen,n',x,m0,b0,hx,rfl,hsb,rfl⟩
  unfold Part.v
  simp only [push_cast,seval,reduceEqDiff,hz,wrap_zip p (done:=done) (by omega),q1,q2,q3,Int.reduceBEq,Int.reduceBNe]
  refine nextW_i (id:=(m0,25)) (mid:=(m0,24)) (es:=usesM) (seen:=seen) rfl (by simp [lk]) (by simp [lk]) (by simp) (by simp) (fun i kv hi hns=>?_) (fun hall=>?_)
  ·obtain ⟨hi7,rfl⟩:=uses_at hi
   have hlast:(seen++[i]).getLast? = some i:=by simp
   have hul2:=useW_len (i+3:Nat)
   have hlt:=leftU_lt hi7 hns
   have hsb2:∀j∈seen++[i],j<7:=by
    intro j hj
    rcases List.mem_append.1 hj with h|h
    ·exact hsb j h
    ·simp at h;omega
   have hhit:=fun h=>seenU_hit (k:=p.kind) (seen:=seen) (i:=i) h hns
   have hmiss:=fun h=>seenU_miss (k:=p.kind) (seen:=seen) (i:=i) h
   generalize hki:((i+3:Nat):Int)=ki at *
   have hsu:seenU p.kind seen<=9:=by unfold seenU;split<;>omega
   simp only [push_cast,seval,reduceEqDiff,hlast,hi]
   repeat' (first|(((first|apply condU_s|apply gdU_t|apply gdU_f)<;>intro _h)<;>simp only [push_cast,seval,reduceEqDiff,_h,hlast,hi])|intro _)
   ·obtain ⟨u1,u2⟩:=hhit (by simpa using _h)
    refine ⟨_,_,hlt,StLe.refl,seen++[i],_,_,_,_,?_,rfl,hsb2,rfl⟩
    rw [u2]
    rw [u1] at hx
    simp (disch:=omega) only [wrap64]
    rw [hx];simp only [Int.natCast_add];omega
   ·have u2:=hmiss (by simpa using _h)
    refine ⟨_,_,hlt,StLe.envD (fun t=>?_) (Nat.le_refl _),seen++[i],_,x,m0,b0,?_,rfl,hsb2,rfl⟩
    ·by_cases h6:6=t
     ·right;subst h6;rfl
     ·by_cases h34:34=t
      ·right;subst h34;rfl
      ·left;simp [get,h6,h34]
    ·rw [u2,hx];simp only [Int.natCast_add];omega
  ·rw [uses_len] at hall
   rw [seenU_end hall hsb] at hx
   have hun:=useN_le p.kind
   clear hall hsb
   obtain ⟨sS,hsS⟩:∃n,n=(if (p.style == [])=true then 0 else 2+p.style.length):=⟨_,rfl⟩
   obtain ⟨sC,hsC⟩:∃n,n=(if selB p.kind=true then 1 else 0):=⟨_,rfl⟩
   rw [<-hsS,<-hsC] at hd
   simp only [push_cast,seval,reduceEqDiff,hz,wrap_zip p (done:=done) (by omega),q1,q2,q3,Int.reduceBEq,Int.reduceBNe]
   repeat' (first|(((first|apply condU_s|apply gdU_t|apply gdU_f)<;>intro _h)<;>simp only [push_cast,seval,reduceEqDiff,_h,hz,wrap_zip p (done:=done) (by omega),q1,q2,q3,Int.reduceBEq,Int.reduceBNe])|(refine c_call (by exact hsel) ?_;simp only [push_cast,seval,reduceEqDiff,hz,wrap_zip p (done:=done) (by omega),q1,q2,q3,Int.reduceBEq,Int.reduceBNe])|intro _)
   all_goals (try simp only [Bool.not_eq_true',Bool.not_eq_false'] at *)
   all_goals (first|rw [if_pos (by assumption)] at hsS|rw [if_neg (by simp only [*,Bool.false_eq_true,not_false_eq_true])] at hsS)
   all_goals (first|rw [if_pos (by assumption)] at hsC|rw [if_neg (by simp only [*,Bool.false_eq_true,not_false_eq_true])] at hsC)
   all_goals
    refine aWP_loopW p.cases.length (Inv:=fun m st=>∃cd cr n' acc' x,x=((acc':Nat):Int)/\p.cases=cd++cr/\m=cr.length/\acc'+lenCs cr+lenPs rest=S/\acc'+20*wtCs cr+20*wtPs rest<=20*wtPs ps/\st=⟨[(3,.i .i64 x),(10,.sl (List.map Part.enc (done++p::rest))),(11,.i .i64 (done++p::rest).length),(12,.i .i64 done.length),(55,.sl (p.cases.map Case.enc)),(56,.i .i64 p.cases.length),(57,.i .i64 cd.length)],[],n'⟩) ⟨_,StLe.drop (fun _ _ h=>by cases h) (Nat.le_refl _),[],p.cases,_,acc+(2+p.name.length)+useN p.kind+sS+sC,_,by ((try simp (disch:=omega) only [wrap64]);omega),rfl,rfl,by rw [<-hd];omega,by omega,rfl⟩ ?_
    clear hd hsS hsC hx
    rintro m _ ⟨cd,cr,n',acc',x,rfl,hcz,rfl,hd,hacc2,rfl⟩
    cases cr with
    | nil=>
     rw [lenCs,Nat.add_zero] at hd
     rw [wtCs_nil] at hacc2
     simp only [push_cast,seval,reduceEqDiff,hcz,wrap_zip p (done:=done) (by omega)]
     intros
     exact ⟨_,_,Nat.lt_succ_self _,StLe.refl,done++[p],rest,_,acc',_,rfl,by simp,rfl,hd,by rw [<-hz];omega,rfl⟩
    | cons c cr=>
     have hcb:=zip_bd hcz
     have hwc:=wtCs_mem (cs:=p.cases) (c:=c) (by simp [hcz])
     rw [lenCs_cons] at hd
     rw [wtCs_cons] at hacc2
     have htc:=lenPs_le c.2
     have hcc:=ih c.2 (by omega) (by omega)
     simp only [push_cast,seval,reduceEqDiff,hcz,wrap_zip c (done:=cd) (by omega)]
     repeat' (first|(refine c_call (by exact hcc) ?_;simp only [push_cast,seval,reduceEqDiff,hcz,wrap_zip c (done:=cd) (by omega)])|intro _)
     refine ⟨_,_,Nat.lt_succ_self _,StLe.drop1 rfl (Nat.le_refl _),cd++[c],cr,_,acc'+((4+c.1.length)+lenPs c.2),_,by (simp (disch:=omega) only [wrap64];omega),by simp [hcz],rfl,by rw [<-hd];omega,by omega,rfl⟩
def validP (ps:List Part):Bool:=(chkPs ps 0 false false []).1&&decide (((chkPs ps 0 false false []).2.length:Int)<=20)&&decide ((lenPs ps:Int)<=4000)
theorem c_valid (ps:List Part) (hb:wtPs ps<=2^24):RetS Tryz.prog W0 77 [.sl (ps.map Part.enc),.b false] [] (.b (validP ps)) []:=by
 have h1:=fun id=>c_chk W0 _ ps 0 false [] id (Nat.lt_succ_self _) hb (by omega) (by omega)
 have h3:=c_length W0 _ ps (Nat.lt_succ_self _) hb
 generalize hS:validP ps=S
 unfold validP at hS
 generalize chkPs ps 0 false false []=R at *
 obtain ⟨rb,rl⟩:=R
 have h1:∀id,RetS Tryz.prog W0 119 [.agg [.arr id],.sl (ps.map Part.enc),.i .i64 0,.b false] [(id,.map [])] (.b rb) [(id,.map (setE rl))]:=h1
 simp only at hS
 refine fn_retW (vs:=[.b S]) f77ok (by simp) (by simp) fun n0 hn0=>?_
 clear hn0
 simp only [push_cast,seval,reduceEqDiff]
 intros
 refine c_calls_2 (h1 _) ?_ ?_
 ·simp
 simp only [push_cast,seval,reduceEqDiff,setE_len]
 repeat' (first|(((first|apply condU_s|apply gdU_t|apply gdU_f)<;>intro _h)<;>simp only [push_cast,seval,reduceEqDiff,_h])|(refine c_call (by exact h3) ?_;simp only [push_cast,seval,reduceEqDiff])|intro _)
 all_goals (try simp only [setE_len] at *)
 all_goals subst hS
 all_goals (first|(refine finW_ret ?_;simp [get, *]<;>(intros;omega);done)|(refine finW_rets ?_;simp [push_cast,get, *];done)|skip)
theorem c_Valid (ps:List Part) (hb:wtPs ps<=2^24):RetS Tryz.prog W0 37 [.sl (ps.map Part.enc)] [] (.b (validP ps)) []:=by
 refine fn_retW (vs:=[.b (validP ps)]) f37ok (by simp) (by simp) fun n0 hn0=>?_
 clear hn0
 simp only [push_cast,seval,reduceEqDiff]
 repeat' (first|(((first|apply condU_s|apply gdU_t|apply gdU_f)<;>intro _h)<;>simp only [push_cast,seval,reduceEqDiff,_h])|(refine c_call (by exact c_valid W0 ps hb) ?_;simp only [push_cast,seval,reduceEqDiff])|intro _)
 all_goals (first|(refine finW_ret ?_;simp [get]<;>(intros;omega);done)|(refine finW_rets ?_;simp [push_cast,get];done)|skip)
end Go.Ir
namespace Go.Ir
open Go.Proofs
variable {P : Program} {W0 : World} {nt n : Nat} {Q : Exit → St → Prop} {env : Env} {σ : Sto}
def f133_2:IC:=.seq (.ops [m1 7 0,o1 8 (.nilck (.t 7)),o1 9 (.faddr (.t 8) 0),o1 10 (.load (.t 9) 1 false),o1 11 (.mkfn 163 [] [.t 4,.t 5]),o1 12 (.calls 97 [.t 10,.t 11]),m1 6 12] [6] []) .ret
def f133_0:IC:=.seq (.ops [o1 4 (.box (.t 1)),o1 5 (.box (.t 2)),o1 6 (.mv (ci 0))] [0,4,5] []) f133_2
@[push_cast]def f133R:List R:=[.t 6]
@[push_cast]def f133e:=aWv f133_2.eq_1<|aWu f133_0.eq_1
theorem f133ok:okFn Tryz.prog 133 13 f133_0 f133R=true:=by kernel_rfl
def f163_2:IC:=.seq (.ops [o1 5 (.faddr (.t 3) 0),o1 6 (.load (.t 5) 1 false),o1 7 (.load (.t 1) 1 false),o1 8 (.bin .eql (.t 6) (.t 7)),m1 9 8,⟨some 10,.faddr (.t 3) 1,some (9,true),[]⟩,⟨some 11,.load (.t 10) 1 false,some (9,true),[]⟩,⟨some 12,.load (.t 2) 1 false,some (9,true),[]⟩,⟨some 13,.bin .eql (.t 11) (.t 12),some (9,true),[]⟩,o1 14 (.pick (.t 9) (.t 13) (.c (.b false))),m1 4 14] [4] []) .ret
def f163_0:IC:=.seq (.ops [o1 3 (.box (.t 0)),o1 4 (.mv (.c (.b false)))] [1,2,3] []) f163_2
@[push_cast]def f163R:List R:=[.t 4]
@[push_cast]def f163e:=aWv f163_2.eq_1<|aWu f163_0.eq_1
theorem f163ok:okFn Tryz.prog 163 15 f163_0 f163R=true:=by kernel_rfl
def f91_17:IC:=.ops [o1 19 (.faddr (.t 5) 0),o1 20 (.load (.t 19) 1 false),o1 21 (.call 76 [.t 20]),o1 22 (.not (.t 21))] [0,5,9,10,11,22] []
def f91_27:IC:=.ops [m1 36 0,m1 37 0,o1 38 (.nilck (.t 37)),o1 39 (.faddr (.t 38) 0),o1 40 (.load (.t 39) 1 false),o1 41 (.faddr (.t 5) 0),o1 42 (.load (.t 41) 1 false),o1 43 (.faddr (.t 5) 2),o1 44 (.load (.t 43) 1 false),o1 45 (.build [(.i .i64 0),(.s []),.nil] [(0,1,(.t 42)),(1,1,(.t 44))]),o1 46 (.msl false 96 3 [.t 45]),o1 47 (.app (.t 40) (.t 46) 96 3),o1 48 (.nilck (.t 36)),o1 49 (.faddr (.t 48) 0),o0 (.store (.t 49) (.t 47) 1)] [0,5,6,9,10,11] [[1,2],[2,3],[3,4],[5,6],[7,8],[6,9],[8,9],[9,10],[4,11],[6,9,10,11],[8,9,10,11],[10,11],[0,12],[12,13],[4,14],[6,14],[8,14],[11,14],[13,14]]
def f91_25:IC:=.seq (.ops [m1 31 0,o1 32 (.nilck (.t 31)),o1 33 (.faddr (.t 32) 0),o1 34 (.load (.t 33) 1 false),o1 35 (.lenL (.t 34)),m1 6 35] [0,5,6,9,10,11] []) f91_27
def f91_43:IC:=.ops [m1 57 0,o1 58 (.nilck (.t 57)),o1 59 (.faddr (.t 58) 0),o1 60 (.load (.t 59) 1 false),m1 61 6,o1 62 (.iaddr (.t 60) (.t 61) 96 3),o1 63 (.faddr (.t 62) 2),o1 64 (.load (.t 63) 1 false),o1 65 (.faddr (.t 8) 0),o1 66 (.load (.t 65) 1 false),o1 67 (.calls 69 [.t 64,.t 66]),o1 68 (.not (.t 67))] [0,6,8,9,10,11,51,52,53,68] [[0,1],[1,2],[2,3],[3,5],[4,5],[5,6],[6,7],[8,9],[3,5,6,7,10],[5,6,7,10],[7,10],[9,10],[10,11]]
def f91_45:IC:=.ops [m1 69 0,o1 70 (.nilck (.t 69)),o1 71 (.faddr (.t 70) 0),o1 72 (.load (.t 71) 1 false),m1 73 6,m1 74 0,o1 75 (.nilck (.t 74)),o1 76 (.faddr (.t 75) 0),o1 77 (.load (.t 76) 1 false),m1 78 6,o1 79 (.iaddr (.t 77) (.t 78) 96 3),o1 80 (.faddr (.t 79) 2),o1 81 (.load (.t 80) 1 false),o1 82 (.faddr (.t 8) 0),o1 83 (.load (.t 82) 1 false),o1 84 (.msl false 9 1 [.t 83]),⟨some 85,.app (.t 81) (.t 84) 9 1,none,[.t 71]⟩,o1 86 (.iaddr (.t 72) (.t 73) 96 3),o1 87 (.faddr (.t 86) 2),o0 (.store (.t 87) (.t 85) 1)] [0,6,8,9,10,11,51,52,53] [[0,1],[1,2],[2,3],[5,6],[6,7],[7,8],[8,10],[9,10],[10,11],[11,12],[13,14],[14,15],[8,10,11,12,16],[10,11,12,16],[12,16],[14,15,16],[15,16],[3,17],[4,17],[16,17],[17,18],[3,19],[8,19],[10,19],[12,19],[14,19],[16,19],[17,18,19],[18,19]]
def f91_46:IC:=.opx [m1 88 0,o1 89 (.faddr (.t 8) 1),o1 90 (.load (.t 89) 1 false)] [0,6,9,10,11,51,52,53,88,90] 91 91 [(.t 88),(.t 90)] [] [0,6,9,10,11,51,52,53]
def f91_36:IC:=.seq (.block 3 (.seq (.ops [o1 55 (.iaddr (.t 51) (.t 53) 78 2),o1 56 (.load (.t 55) 2 true),o1 8 (.alloc (.agg [(.s []),.nil])),o0 (.store (.t 8) (.t 56) 2)] [0,6,8,9,10,11,51,52,53] []) (.seq (.seq (.wk f91_43) (.cond (.t 68) f91_45 .skip)) f91_46))) (.ops [o1 92 (.bin .add (.t 53) (ci 1)),m1 53 92] [0,6,9,10,11,51,52,53] [])
def f91_32:IC:=.seq (.ops [o1 54 (.bin .lss (.t 53) (.t 52))] [0,6,9,10,11,51,52,53,54] []) (.seq (.cond (.t 54) .skip (.exit 2)) f91_36)
def f91_28:IC:=.seq (.ops [o1 50 (.faddr (.t 5) 4),o1 51 (.load (.t 50) 1 false),o1 52 (.lenL (.t 51)),o1 53 (.mv (ci 0))] [0,6,9,10,11,51,52,53] []) (.block 2 (.loop f91_32))
def f91_21:IC:=.seq (.seq (.ops [m1 29 6,o1 30 (.bin .lss (.t 29) (ci 0))] [0,5,6,9,10,11,30] []) (.cond (.t 30) f91_25 .skip)) f91_28
def f91_19:IC:=.seq (.ops [m1 23 0,o1 24 (.faddr (.t 5) 0),o1 25 (.load (.t 24) 1 false),o1 26 (.faddr (.t 5) 2),o1 27 (.load (.t 26) 1 false),o1 28 (.calls 133 [.t 23,.t 25,.t 27]),m1 6 28] [0,5,6,9,10,11] []) f91_21
def f91_12:IC:=.seq (.opx [m1 15 0,o1 16 (.faddr (.t 5) 5),o1 17 (.load (.t 16) 1 false)] [0,5,9,10,11,15,17] 18 91 [(.t 15),(.t 17)] [] [0,5,9,10,11]) (.seq (.seq (.wk f91_17) (.cond (.t 22) (.exit 1) .skip)) f91_19)
def f91_8:IC:=.seq (.block 1 (.seq (.ops [o1 13 (.iaddr (.t 9) (.t 11) 43 6),o1 14 (.load (.t 13) 6 true),o1 5 (.alloc (.agg [(.i .i64 0),(.s []),(.s []),(.s []),.nil,.nil])),o0 (.store (.t 5) (.t 14) 6)] [0,5,9,10,11] []) f91_12)) (.ops [o1 93 (.bin .add (.t 11) (ci 1)),m1 11 93] [0,9,10,11] [])
def f91_4:IC:=.seq (.ops [o1 12 (.bin .lss (.t 11) (.t 10))] [0,9,10,11,12] []) (.seq (.cond (.t 12) .skip (.exit 0)) f91_8)
def f91_0:IC:=.seq (.ops [m1 9 1,o1 10 (.lenL (.t 9)),o1 11 (.mv (ci 0))] [0,9,10,11] []) (.block 0 (.loop f91_4))
@[push_cast]def f91R:List R:=[]
@[push_cast]def f91e:=aWv f91_17.eq_1<|aWv f91_27.eq_1<|aWv f91_25.eq_1<|aWv f91_43.eq_1<|aWv f91_45.eq_1<|aWv f91_46.eq_1<|aWv f91_36.eq_1<|aWv f91_32.eq_1<|aWv f91_28.eq_1<|aWv f91_21.eq_1<|aWv f91_19.eq_1<|aWv f91_12.eq_1<|aWv f91_8.eq_1<|aWv f91_4.eq_1<|aWu f91_0.eq_1
theorem f91ok:okFn Tryz.prog 91 94 f91_0 f91R=true:=by kernel_rfl
def f45_9:IC:=.ops [m1 10 3,o1 11 (.nilck (.t 10)),o1 12 (.faddr (.t 11) 0),o1 13 (.load (.t 12) 1 false),o1 14 (.lenL (.t 13)),o1 15 (.mv (ci 0))] [3,14,15] []
def f45_20:IC:=.ops [m1 18 3,o1 19 (.nilck (.t 18)),o1 20 (.faddr (.t 19) 0),o1 21 (.load (.t 20) 1 false),m1 22 4,m1 23 3,o1 24 (.nilck (.t 23)),o1 25 (.faddr (.t 24) 0),o1 26 (.load (.t 25) 1 false),m1 27 4,o1 28 (.iaddr (.t 26) (.t 27) 96 3),o1 29 (.load (.t 28) 3 true),o1 30 (.call 92 [.t 29]),o1 31 (.iaddr (.t 21) (.t 22) 96 3),o1 32 (.faddr (.t 31) 2),o0 (.store (.t 32) (.t 30) 1)] [3,14,15] [[0,1],[1,2],[2,3],[5,6],[6,7],[7,8],[8,10],[9,10],[10,11],[11,12],[3,13],[4,13],[13,14],[3,15],[8,15],[10,15],[11,15],[12,15],[13,14,15],[14,15]]
def f45_16:IC:=.seq (.block 1 (.seq (.ops [m1 17 15,m1 4 17] [3,4,14,15] []) f45_20)) (.ops [o1 33 (.bin .add (.t 15) (ci 1)),m1 15 33] [3,14,15] [])
def f45_12:IC:=.seq (.ops [o1 16 (.bin .lss (.t 15) (.t 14))] [3,14,15,16] []) (.seq (.cond (.t 16) .skip (.exit 0)) f45_16)
def f45_22:IC:=.seq (.ops [m1 34 3,o1 35 (.nilck (.t 34)),o1 36 (.faddr (.t 35) 0),o1 37 (.load (.t 36) 1 false),m1 2 37] [2] []) .ret
def f45_4:IC:=.seq (.opx [m1 7 3,m1 8 0] [3,7,8] 9 91 [(.t 7),(.t 8)] [] [3]) (.seq (.seq (.wk f45_9) (.block 0 (.loop f45_12))) f45_22)
def f45_0:IC:=.seq (.ops [o1 2 (.mv (.c .nil))] [0] []) (.seq (.ops [o1 5 (.build [.nil] []),o1 6 (.box (.t 5)),m1 3 6] [0,3] []) f45_4)
@[push_cast]def f45R:List R:=[.t 2]
@[push_cast]def f45e:=aWv f45_9.eq_1<|aWv f45_20.eq_1<|aWv f45_16.eq_1<|aWv f45_12.eq_1<|aWv f45_22.eq_1<|aWv f45_4.eq_1<|aWu f45_0.eq_1
theorem f45ok:okFn Tryz.prog 45 38 f45_0 f45R=true:=by kernel_rfl
def f92_20:IC:=.ops [m1 26 3,m1 27 5,o1 28 (.msl false 9 1 [.t 27]),o1 29 (.app (.t 26) (.t 28) 9 1),m1 3 29] [1,3,9,10,11] []
def f92_17:IC:=.seq (.ops [m1 15 5,o1 16 (.bin .neq (.t 15) (.c (.s [111,116,104,101,114]))),m1 17 16,⟨some 18,.faddr (.t 1) 0,some (17,true),[]⟩,⟨some 19,.load (.t 18) 1 false,some (17,true),[]⟩,⟨some 20,.bin .eql (.t 19) (ci 9),some (17,true),[]⟩,⟨some 21,.mv (.t 20),some (17,true),[]⟩,⟨some 22,.mv (.t 5),some (21,false),[]⟩,⟨some 23,.call 70 [.t 22,(.c (.s [61]))],some (21,false),[]⟩,⟨some 24,.pick (.t 21) (.c (.b true)) (.t 23),some (17,true),[]⟩,o1 25 (.pick (.t 17) (.t 24) (.c (.b false)))] [1,3,5,9,10,11,25] []) (.cond (.t 25) f92_20 .skip)
def f92_13:IC:=.seq (.block 1 (.seq (.ops [o1 13 (.iaddr (.t 9) (.t 11) 9 1),o1 14 (.load (.t 13) 1 false),m1 5 14] [1,3,5,9,10,11] []) f92_17)) (.ops [o1 30 (.bin .add (.t 11) (ci 1)),m1 11 30] [1,3,9,10,11] [])
def f92_9:IC:=.seq (.ops [o1 12 (.bin .lss (.t 11) (.t 10))] [1,3,9,10,11,12] []) (.seq (.cond (.t 12) .skip (.exit 0)) f92_13)
def f92_41:IC:=.ops [m1 44 3,m1 45 7,o1 46 (.msl false 9 1 [.t 45]),o1 47 (.app (.t 44) (.t 46) 9 1),m1 3 47] [1,3,34,35,36] []
def f92_38:IC:=.seq (.ops [o1 40 (.faddr (.t 1) 2),o1 41 (.load (.t 40) 1 false),m1 42 7,o1 43 (.call 69 [.t 41,.t 42])] [1,3,7,34,35,36,43] []) (.cond (.t 43) f92_41 .skip)
def f92_34:IC:=.seq (.block 3 (.seq (.ops [o1 38 (.iaddr (.t 34) (.t 36) 9 1),o1 39 (.load (.t 38) 1 false),m1 7 39] [1,3,7,34,35,36] []) f92_38)) (.ops [o1 48 (.bin .add (.t 36) (ci 1)),m1 36 48] [1,3,34,35,36] [])
def f92_30:IC:=.seq (.ops [o1 37 (.bin .lss (.t 36) (.t 35))] [1,3,34,35,36,37] []) (.seq (.cond (.t 37) .skip (.exit 2)) f92_34)
def f92_26:IC:=.seq (.ops [o1 34 (.call 134 []),o1 35 (.lenL (.t 34)),o1 36 (.mv (ci 0))] [1,3,34,35,36] []) (.block 2 (.loop f92_30))
def f92_43:IC:=.seq (.ops [m1 49 3,o1 50 (.msl false 9 1 [(.c (.s [111,116,104,101,114]))]),o1 51 (.app (.t 49) (.t 50) 9 1),m1 2 51] [2] []) .ret
def f92_22:IC:=.seq (.seq (.ops [o1 31 (.faddr (.t 1) 0),o1 32 (.load (.t 31) 1 false),o1 33 (.bin .neq (.t 32) (ci 9))] [1,3,33] []) (.cond (.t 33) f92_26 .skip)) f92_43
def f92_4:IC:=.seq (.seq (.ops [o1 8 (.faddr (.t 1) 2),o1 9 (.load (.t 8) 1 false),o1 10 (.lenL (.t 9)),o1 11 (.mv (ci 0))] [1,3,9,10,11] []) (.block 0 (.loop f92_9))) f92_22
def f92_0:IC:=.seq (.ops [o1 1 (.box (.t 0)),o1 2 (.mv (.c .nil))] [1] []) (.seq (.ops [o1 3 (.mv (.c .nil))] [1,3] []) f92_4)
@[push_cast]def f92R:List R:=[.t 2]
@[push_cast]def f92e:=aWv f92_20.eq_1<|aWv f92_17.eq_1<|aWv f92_13.eq_1<|aWv f92_9.eq_1<|aWv f92_41.eq_1<|aWv f92_38.eq_1<|aWv f92_34.eq_1<|aWv f92_30.eq_1<|aWv f92_26.eq_1<|aWv f92_43.eq_1<|aWv f92_22.eq_1<|aWv f92_4.eq_1<|aWu f92_0.eq_1
theorem f92ok:okFn Tryz.prog 92 52 f92_0 f92R=true:=by kernel_rfl
def f134_2:IC:=.seq (.ops [o1 1 (.msl false 9 1 [(.c (.s [122,101,114,111])),(.c (.s [111,110,101])),(.c (.s [116,119,111])),(.c (.s [102,101,119])),(.c (.s [109,97,110,121]))]),m1 0 1] [0] []) .ret
def f134_0:IC:=.seq (.ops [o1 0 (.mv (.c .nil))] [] []) f134_2
@[push_cast]def f134R:List R:=[.t 0]
@[push_cast]def f134e:=aWv f134_2.eq_1<|aWu f134_0.eq_1
theorem f134ok:okFn Tryz.prog 134 2 f134_0 f134R=true:=by kernel_rfl
def f46_19:IC:=.seq (.ops [m1 17 3,o1 18 (.bin .gtr (.t 17) (ci 400))] [3,6,7,8,18] []) (.cond (.t 18) (.seq (.ops [m1 19 3,m1 2 19] [2] []) .ret) .skip)
def f46_17:IC:=.seq (.ops [m1 12 3,o1 13 (.faddr (.t 5) 2),o1 14 (.load (.t 13) 1 false),o1 15 (.lenL (.t 14)),o1 16 (.bin .mul (.t 12) (.t 15)),m1 3 16] [3,6,7,8] []) f46_19
def f46_13:IC:=.seq (.block 1 (.seq (.ops [o1 10 (.iaddr (.t 6) (.t 8) 96 3),o1 11 (.load (.t 10) 3 true),o1 5 (.alloc (.agg [(.i .i64 0),(.s []),.nil])),o0 (.store (.t 5) (.t 11) 3)] [3,5,6,7,8] []) f46_17)) (.ops [o1 20 (.bin .add (.t 8) (ci 1)),m1 8 20] [3,6,7,8] [])
def f46_9:IC:=.seq (.ops [o1 9 (.bin .lss (.t 8) (.t 7))] [3,6,7,8,9] []) (.seq (.cond (.t 9) .skip (.exit 0)) f46_13)
def f46_4:IC:=.seq (.seq (.ops [m1 6 0,o1 7 (.lenL (.t 6)),o1 8 (.mv (ci 0))] [3,6,7,8] []) (.block 0 (.loop f46_9))) (.seq (.ops [m1 21 3,m1 2 21] [2] []) .ret)
def f46_0:IC:=.seq (.ops [o1 2 (.mv (ci 0))] [0] []) (.seq (.ops [o1 3 (.mv (ci 1))] [0,3] []) f46_4)
@[push_cast]def f46R:List R:=[.t 2]
@[push_cast]def f46e:=aWv f46_19.eq_1<|aWv f46_17.eq_1<|aWv f46_13.eq_1<|aWv f46_9.eq_1<|aWv f46_4.eq_1<|aWu f46_0.eq_1
theorem f46ok:okFn Tryz.prog 46 22 f46_0 f46R=true:=by kernel_rfl
end Go.Ir
section
namespace Go.Ir
structure Sel where
 kind:Int
 name:Bytes
 keys:List Bytes
def selIs (k:Int) (n:Bytes) (s:Sel):Bool:=s.kind == k&&s.name == n
def findI (l:List Sel) (k:Int) (n:Bytes):Int:=idxI (selIs k n) l
def addKey (key:Bytes) (s:Sel):Sel:=if s.keys.contains key then s else { s with keys:=s.keys++[key] }
def selAt (l:List Sel) (k:Int) (n:Bytes):Nat:=if findI l k n<0 then l.length else (findI l k n).toNat
def selAdd (l:List Sel) (k:Int) (n:Bytes):List Sel:=if findI l k n<0 then l++[⟨k,n,[]⟩] else l
mutual
def Part.coll:Part->List Sel->List Sel
 | ⟨k,_,nm,_,cs,ps⟩,l=>
  if selB k then collCs cs (selAt (collPs ps l) k nm) (selAdd (collPs ps l) k nm) else collPs ps l
def collPs:List Part->List Sel->List Sel
 | [],l=>l
 | p::ps,l=>collPs ps (p.coll l)
def collCs:List (Bytes × List Part)->Nat->List Sel->List Sel
 | [],_,l=>l
 | (key,ps)::cs,j,l=>collCs cs j (collPs ps (l.modify j (addKey key)))
end
theorem Part.coll_eq (p:Part) (l:List Sel):p.coll l=if selB p.kind then collCs p.cases (selAt (collPs p.parts l) p.kind p.name) (selAdd (collPs p.parts l) p.kind p.name) else collPs p.parts l:=by cases p;simp only [Part.coll]
theorem collPs_cons (p:Part) (ps:List Part) (l:List Sel):collPs (p::ps) l=collPs ps (p.coll l):=by simp only [collPs]
theorem collCs_cons (c:Case) (cs:List Case) (j:Nat) (l:List Sel):collCs (c::cs) j l=collCs cs j (collPs c.2 (l.modify j (addKey c.1))):=by obtain ⟨a,b⟩:=c;simp only [collCs]
mutual
def Part.rcoll:Part->List Sel->List Sel
 | ⟨k,_,nm,_,cs,ps⟩,l=>
  if selB k then rcollCs cs k nm (selAdd (rcollPs ps l) k nm) else rcollPs ps l
def rcollPs:List Part->List Sel->List Sel
 | [],l=>l
 | p::ps,l=>rcollPs ps (p.rcoll l)
def rcollCs:List (Bytes × List Part)->Int->Bytes->List Sel->List Sel
 | [],_,_,l=>l
 | (key,ps)::cs,k,nm,l=>rcollCs cs k nm (rcollPs ps (l.modify (findI l k nm).toNat (addKey key)))
end
theorem Part.rcoll_eq (p:Part) (l:List Sel):p.rcoll l=if selB p.kind then rcollCs p.cases p.kind p.name (selAdd (rcollPs p.parts l) p.kind p.name) else rcollPs p.parts l:=by cases p;simp only [Part.rcoll]
theorem rcollPs_cons (p:Part) (ps:List Part) (l:List Sel):rcollPs (p::ps) l=rcollPs ps (p.rcoll l):=by simp only [rcollPs]
theorem rcollCs_cons (c:Case) (cs:List Case) (k:Int) (nm:Bytes) (l:List Sel):rcollCs (c::cs) k nm l=rcollCs cs k nm (rcollPs c.2 (l.modify (findI l k nm).toNat (addKey c.1))):=by obtain ⟨a,b⟩:=c;simp only [rcollCs]
def selW:List Sel->Nat
 | []=>0
 | s::l=>1+s.keys.length+selW l
theorem selW_app (a b:List Sel):selW (a++b)=selW a+selW b:=by
 induction a with
 | nil=>simp [selW]
 | cons s a ih=>simp [selW,ih];omega
theorem selW_mod (l:List Sel) (j:Nat) (key:Bytes):selW (l.modify j (addKey key))<=selW l+1:=by
 induction l generalizing j with
 | nil=>simp [selW]
 | cons s l ih=>
  cases j with
  | zero=>
   simp only [List.modify_zero_cons,selW]
   unfold addKey
   split
   ·omega
   ·simp;omega
  | succ j=>simp only [List.modify_succ_cons,selW];have:=ih j;omega
theorem selW_add (l:List Sel) (k:Int) (n:Bytes):selW (selAdd l k n)<=selW l+1:=by
 unfold selAdd
 split
 ·rw [selW_app];simp [selW]
 ·omega
theorem len_selW (l:List Sel):l.length<=selW l:=by
 induction l with
 | nil=>simp
 | cons s l ih=>simp [selW];omega
theorem keys_selW {l:List Sel} {s:Sel} (h:s∈l):s.keys.length<=selW l:=by
 induction l with
 | nil=>cases h
 | cons d l ih=>
  simp only [selW]
  rcases List.mem_cons.1 h with rfl|h
  ·omega
  ·have:=ih h;omega
theorem coll_w:∀(N:Nat) (ps:List Part),wtPs ps<N->∀l,selW (collPs ps l)<=selW l+wtPs ps:=by
 intro N
 induction N with
 | zero=>intro ps h;omega
 | succ N ih=>
  have hcs:∀cs:List Case,wtCs cs<N->∀j l,selW (collCs cs j l)<=selW l+wtCs cs:=by
   intro cs
   induction cs with
   | nil=>intro _ j l;simp [collCs]
   | cons c cs ih2=>
    intro h j l;rw [wtCs_cons] at h;rw [collCs_cons,wtCs_cons]
    have h1:=ih c.2 (by omega) (l.modify j (addKey c.1));have h2:=ih2 (by omega) j (collPs c.2 (l.modify j (addKey c.1)));have h3:=selW_mod l j c.1;omega
  intro ps
  induction ps with
  | nil=>intro _ l;simp [collPs]
  | cons p ps ih2=>
   intro h l;rw [wtPs_cons] at h;rw [collPs_cons,wtPs_cons];have h3:=ih2 (by omega) (p.coll l)
   rw [p.wt_eq] at *;rw [p.coll_eq] at *
   have h1:=ih p.parts (by omega) l
   split at h3
   ·have h2:=hcs p.cases (by omega) (selAt (collPs p.parts l) p.kind p.name) (selAdd (collPs p.parts l) p.kind p.name)
    have h4:=selW_add (collPs p.parts l) p.kind p.name
    rename_i hs
    rw [if_pos hs]
    omega
   ·rename_i hs
    rw [if_neg hs]
    omega
theorem collPs_w (ps:List Part) (l:List Sel):selW (collPs ps l)<=selW l+wtPs ps:=coll_w _ ps (Nat.lt_succ_self _) l
def SelExt (l l':List Sel):Prop:=l.length<=l'.length/\∀(i:Nat) (s s':Sel),l[i]? = some s->l'[i]? = some s'->s.kind=s'.kind/\s.name=s'.name
theorem SelExt.refl (l:List Sel):SelExt l l:=⟨Nat.le_refl _,fun i s s' h h'=>by rw [h] at h';cases h';exact ⟨rfl,rfl⟩⟩
theorem SelExt.trans {a b c:List Sel} (h:SelExt a b) (k:SelExt b c):SelExt a c:=by
 refine ⟨Nat.le_trans h.1 k.1,fun i s s' hs hs'=>?_⟩
 have hi:i<b.length:=Nat.lt_of_lt_of_le (List.getElem?_eq_some_iff.1 hs).1 h.1
 have hm:b[i]? = some b[i]:=List.getElem?_eq_getElem hi
 have h1:=h.2 i s _ hs hm
 have h2:=k.2 i _ s' hm hs'
 exact ⟨h1.1.trans h2.1,h1.2.trans h2.2⟩
theorem SelExt.app (l m:List Sel):SelExt l (l++m):=by
 refine ⟨by simp,fun i s s' h h'=>?_⟩
 have hi:i<l.length:=(List.getElem?_eq_some_iff.1 h).1
 rw [List.getElem?_append_left hi,h] at h'
 cases h';exact ⟨rfl,rfl⟩
theorem addKey_same (key:Bytes) (s:Sel):(addKey key s).kind=s.kind/\(addKey key s).name=s.name:=by
 unfold addKey;split<;>exact ⟨rfl,rfl⟩
theorem SelExt.mod (l:List Sel) (j:Nat) (key:Bytes):SelExt l (l.modify j (addKey key)):=by
 refine ⟨by simp,fun i s s' h h'=>?_⟩
 rw [List.getElem?_modify,h] at h'
 by_cases hj:j=i
 ·have h2:addKey key s=s':=by simpa [hj] using h'
  rw [<-h2]
  have:=addKey_same key s
  exact ⟨this.1.symm,this.2.symm⟩
 ·have h2:s=s':=by simpa [hj] using h'
  rw [<-h2];exact ⟨rfl,rfl⟩
theorem findI_ext {l l':List Sel} (h:SelExt l l') (k:Int) (n:Bytes) (hf:¬findI l k n<0):findI l' k n=findI l k n:=by
 induction l generalizing l' with
 | nil=>exact absurd (by simp [findI,idxI]) hf
 | cons s l ih=>
  cases l' with
  | nil=>have:=h.1;simp at this
  | cons s' l'=>
   have h0:=h.2 0 s s' rfl rfl
   have ht:SelExt l l':=⟨by have:=h.1;simpa using this,fun i a b ha hb=>h.2 (i+1) a b (by simpa using ha) (by simpa using hb)⟩
   have he:selIs k n s'=selIs k n s:=by unfold selIs;rw [h0.1,h0.2]
   unfold findI at *
   simp only [idxI,he] at hf⊢
   cases hs:selIs k n s with
   | true=>simp
   | false=>
    simp only [hs,cond_false] at hf⊢
    have hf2:¬idxI (selIs k n) l<0:=by
     intro hlt;rw [if_pos hlt] at hf;exact hf (by decide)
    rw [ih ht hf2]
theorem findI_end (l:List Sel) (k:Int) (n:Bytes) (h:findI l k n<0):findI (l++[⟨k,n,[]⟩]) k n=l.length:=by
 unfold findI at *
 induction l with
 | nil=>simp [idxI,selIs]
 | cons s l ih=>
  simp only [idxI,List.cons_append] at h⊢
  cases hs:selIs k n s with
  | true=>simp [hs] at h
  | false=>
   simp only [hs,cond_false] at h⊢
   have h2:idxI (selIs k n) l<0:=by
    have:=idxI_lo (selIs k n) l
    split at h
    ·assumption
    ·omega
   rw [ih h2,if_neg (by omega)];simp
theorem selAt_ge (l:List Sel) (k:Int) (n:Bytes):¬findI (selAdd l k n) k n<0/\(findI (selAdd l k n) k n).toNat=selAt l k n:=by
 unfold selAdd selAt
 by_cases h:findI l k n<0
 ·rw [if_pos h,if_pos h]
  rw [findI_end l k n h]
  exact ⟨by omega,by omega⟩
 ·rw [if_neg h,if_neg h]
  exact ⟨h,rfl⟩
theorem coll_same:∀(N:Nat) (ps:List Part),wtPs ps<N->∀l,rcollPs ps l=collPs ps l/\SelExt l (collPs ps l):=by
 intro N
 induction N with
 | zero=>intro ps h;omega
 | succ N ih=>
  have hcs:∀cs:List Case,wtCs cs<N->∀(k:Int) (nm:Bytes) (j:Nat) l,¬findI l k nm<0->(findI l k nm).toNat=j->rcollCs cs k nm l=collCs cs j l/\SelExt l (collCs cs j l):=by
   intro cs
   induction cs with
   | nil=>intro _ k nm j l _ _;simp [rcollCs,collCs,SelExt.refl]
   | cons c cs ih2=>
    intro h k nm j l hf hj
    rw [wtCs_cons] at h;rw [collCs_cons,rcollCs_cons,hj]
    obtain ⟨h1,h2⟩:=ih c.2 (by omega) (l.modify j (addKey c.1))
    have he:=(SelExt.mod l j c.1).trans h2
    have hf2:=findI_ext he k nm hf
    obtain ⟨h3,h4⟩:=ih2 (by omega) k nm j (collPs c.2 (l.modify j (addKey c.1))) (by rw [hf2];exact hf) (by rw [hf2];exact hj)
    rw [h1]
    exact ⟨h3,he.trans h4⟩
  intro ps
  induction ps with
  | nil=>intro _ l;simp [rcollPs,collPs,SelExt.refl]
  | cons p ps ih2=>
   intro h l;rw [wtPs_cons] at h;rw [collPs_cons,rcollPs_cons]
   have hw:=p.wt_eq
   obtain ⟨a1,a2⟩:=ih p.parts (by omega) l
   have hp:p.rcoll l=p.coll l/\SelExt l (p.coll l):=by
    rw [p.coll_eq,p.rcoll_eq,a1]
    split
    ·obtain ⟨b1,b2⟩:=selAt_ge (collPs p.parts l) p.kind p.name
     obtain ⟨c1,c2⟩:=hcs p.cases (by omega) p.kind p.name _ _ b1 b2
     refine ⟨c1,(a2.trans ?_).trans c2⟩
     unfold selAdd
     split
     ·exact SelExt.app _ _
     ·exact SelExt.refl _
    ·exact ⟨rfl,a2⟩
   obtain ⟨d1,d2⟩:=ih2 (by omega) (p.coll l)
   rw [hp.1]
   exact ⟨d1,hp.2.trans d2⟩
end Go.Ir
end
namespace Go.Ir
open Go.Proofs
theorem lk_mem_of {σ:Sto} {i:Id} {e:Ent} (h:lk σ i=some e):(i,e)∈σ:=by
 induction σ with
 | nil=>cases h
 | cons p σ ih=>
  obtain ⟨k,x⟩:=p
  simp only [lk] at h
  split at h
  ·rename_i h1;subst h1;cases h;simp
  ·exact List.mem_cons_of_mem _ (ih h)
theorem mem_lk_of {σ:Sto} {i:Id} {e:Ent} (hn:(σ.map (·.1)).Nodup) (h:(i,e)∈σ):lk σ i=some e:=by
 induction σ with
 | nil=>cases h
 | cons p σ ih=>
  obtain ⟨k,x⟩:=p
  rw [List.map_cons,List.nodup_cons] at hn
  simp only [lk]
  rcases List.mem_cons.1 h with h1|h1
  ·cases h1;rw [if_pos rfl]
  ·rw [if_neg,ih hn.2 h1]
   rintro rfl
   exact hn.1 (List.mem_map.2 ⟨_,h1,rfl⟩)
theorem lk_none_of {σ:Sto} {i:Id} (h:∀p∈σ,p.1≠i):lk σ i=none:=by
 cases hl:lk σ i with
 | none=>rfl
 | some e=>exact absurd rfl (h _ (lk_mem_of hl))
theorem del_none {σ:Sto} {i:Id} (h:∀p∈σ,p.1≠i):del σ i=σ:=by
 induction σ with
 | nil=>rfl
 | cons p σ ih=>
  obtain ⟨k,x⟩:=p
  simp only [del]
  rw [if_neg (h (k,x) (by simp)),ih fun q hq=>h q (List.mem_cons_of_mem _ hq)]
theorem lk_app_left {σ τ:Sto} {i:Id} {e:Ent} (h:lk σ i=some e):lk (σ++τ) i=some e:=by
 induction σ with
 | nil=>cases h
 | cons p σ ih=>
  obtain ⟨k,x⟩:=p
  rw [List.cons_append]
  simp only [lk] at h⊢
  split at h
  ·rename_i h1;rw [if_pos h1];exact h
  ·rename_i h1;rw [if_neg h1];exact ih h
theorem over_mid {σi σo pre post:Sto} (h1:∀p∈pre,∀q∈σi,p.1≠q.1) (h2:∀p∈post,∀q∈σi,p.1≠q.1):over σi σo (pre++σi++post)=σo++(pre++post):=by
 have keep:∀τ:Sto,(∀p∈τ,∀q∈σi,p.1≠q.1)->List.filter (fun p:Id × Ent=>(lk σi p.1).isNone) τ=τ:=by
  intro τ h
  rw [List.filter_eq_self]
  intro p hp
  rw [lk_none_of fun q hq=>Ne.symm (h p hp q hq)];rfl
 have gone:List.filter (fun p:Id × Ent=>(lk σi p.1).isNone) σi=[]:=by
  rw [List.filter_eq_nil_iff]
  intro p hp hh
  cases hl:lk σi p.1 with
  | none=>
   clear keep
   revert hp hl
   generalize σi=τ
   intro hp hl
   induction τ with
   | nil=>cases hp
   | cons q τ ih=>
    obtain ⟨k,x⟩:=q
    simp only [lk] at hl
    split at hl
    ·cases hl
    ·rename_i hne
     rcases List.mem_cons.1 hp with rfl|hp
     ·exact hne rfl
     ·exact ih hp hl
  | some e=>rw [hl] at hh;cases hh
 unfold over
 rw [List.filter_append,List.filter_append,keep pre h1,gone,keep post h2,List.append_nil]
theorem StLe.sub {W0:World} {nt n n':Nat} {env:Env} {σ σ':Sto} (hnd:(σ.map (·.1)).Nodup) (h:∀p∈σ',p∈σ) (hn:n<=n'):StLe W0 nt ⟨env,σ,n⟩ ⟨env,σ',n'⟩:=
 StLe.drop (fun i e hl=>mem_lk_of hnd (h _ (lk_mem_of hl))) hn
theorem StLe.pre {W0:World} {nt n n':Nat} {env:Env} {σ τ:Sto} (hn:n<=n'):StLe W0 nt ⟨env,σ++τ,n⟩ ⟨env,σ,n'⟩:=
 StLe.drop (fun i e hl=>lk_app_left hl) hn
abbrev OS:=Sel × Option Id
def sv (o:Option Id):V:=match o with
 | none=>.nil
 | some id=>.arr id
def osV (x:OS):V:=.agg [.i .i64 x.1.kind,.s x.1.name,sv x.2]
def osE (x:OS):Sto:=match x.2 with
 | none=>[]
 | some id=>[(id,.arr 9 1 (x.1.keys.map V.s))]
def ossE (L:List OS):Sto:=L.flatMap osE
def slE (e:Nat) (lo:Option Id) (L:List OS):Sto:=match lo with
 | none=>[]
 | some id=>[(id,.arr e 3 (L.map osV))]
def selS (e:Nat) (lo:Option Id) (L:List OS):Sto:=slE e lo L++ossE L
theorem ossE_app (A B:List OS):ossE (A++B)=ossE A++ossE B:=by simp [ossE]
theorem ossE_cons (x:OS) (B:List OS):ossE (x::B)=osE x++ossE B:=by simp [ossE]
structure SelOk (e:Nat) (hd:Sto) (lo:Option Id) (L:List OS) (n:Nat):Prop where
 nd:((hd++selS e lo L).map (·.1)).Nodup
 lt:∀p∈hd++selS e lo L,p.1.1<n
 ne:lo=none->L=[]
 kn:∀x∈L,x.2=none->x.1.keys=[]
end Go.Ir
namespace Go.Ir
open Go.Proofs
variable (W0 : World)
theorem ne_idx {id:Id} {a j:Nat} (h:id.1<a):((a,j)=id)=False:=by
 apply eq_false;rintro rfl;exact Nat.lt_irrefl _ h
theorem c_find1 (x:OS) (k:Int) (n:Bytes) (kid nid:Id) (σ:Sto) (hk:lk σ kid=some (.box (.i .i64 k))) (hn:lk σ nid=some (.box (.s n))) :
  RetS Tryz.prog W0 163 [osV x,.ref kid 0,.ref nid 0] σ (.b (selIs k n x.1)) σ:=by
 generalize hS:selIs k n x.1=S
 unfold selIs at hS
 refine fn_retW (vs:=[.b S]) f163ok (by simp) (fun _ h=>h) fun n0 hn0=>?_
 have h1:∀j,((n0,j)=kid)=False:=fun j=>ne_idx (hn0 _ _ hk)
 have h2:∀j,((n0,j)=nid)=False:=fun j=>ne_idx (hn0 _ _ hn)
 unfold osV
 simp only [push_cast,seval,reduceEqDiff,h1,h2,hk,hn]
 repeat' (first|(((first|apply condU_s|apply gdU_t|apply gdU_f)<;>intro _h)<;>simp only [push_cast,seval,reduceEqDiff,_h,h1,h2,hk,hn])|intro _)
 all_goals subst hS
 all_goals (refine finW_retS (by simp [get, *]) (fun i e h=>lk_fresh (hn0 i e h) h))
theorem c_find (k:Int) (n:Bytes) (cid:Id) (lo:Option Id) (L:List OS) (hl:L.length<=2^40) (hne:lo=none->L=[]) (hid:∀id,lo=some id->id≠cid) :
  RetS Tryz.prog W0 133 [.ref cid 0,.i .i64 k,.s n] ((cid,.box (.agg [sv lo]))::slE 96 lo L) (.i .i64 (findI (L.map (·.1)) k n)) ((cid,.box (.agg [sv lo]))::slE 96 lo L):=by
 generalize hS:findI (L.map (·.1)) k n=S
 refine fn_retW (vs:=[.i .i64 S]) f133ok (by simp) (fun _ h=>h) fun n0 hn0=>?_
 have hc:cid.1<n0:=hn0 cid (.box (.agg [sv lo])) (by simp [lk])
 have h1:∀j,((n0,j)=cid)=False:=fun j=>ne_idx hc
 cases lo with
 | none=>
  have hL:=hne rfl
  subst hL
  have hS0:S = -1:=by rw [<-hS];rfl
  subst hS0
  unfold slE sv
  simp only [push_cast,seval,reduceEqDiff,h1]
  intro _
  refine c_calls (σi:=[]) (σo:=[]) (indexFuncN_ret W0 (f:=97) (e:=96) (sz:=3) (ag:=true) (by kernel_rfl) _ _ _ []) (fun _ _ h=>by cases h) ?_
  rw [show ∀σ,over [] [] σ=σ from over_nil]
  simp only [push_cast,seval,reduceEqDiff,h1]
  intro _
  exact finW_retS (by simp [get]) (fun i e h=>lk_fresh (hn0 i e h) (lk_fresh (hn0 i e h) h))
 | some lid=>
  have hlc:=hid lid rfl
  have hl0:lid.1<n0:=hn0 lid (.arr 96 3 (L.map osV)) (by simp [slE,lk,Ne.symm hlc])
  have h2:∀j,((n0,j)=lid)=False:=fun j=>ne_idx hl0
  unfold slE sv
  simp only [push_cast,seval,reduceEqDiff,h1,h2]
  intro k1
  have hidx:=indexFuncA_ret W0 (P:=Tryz.prog) (f:=97) (e:=96) (sz:=3) (ag:=true) (by kernel_rfl) osV L (fun x=>selIs k n x.1) 163 [] [.ref (n0,4) 0,.ref (n0,5) 0]
   [((n0,5),.box (.s n)),((n0,4),.box (.i .i64 k)),(cid,.box (.agg [.arr lid])),(lid,.arr 96 3 (L.map osV))] lid 96 (by simp [lk,h1,h2,Ne.symm hlc]) (fun x _=>elOk_agg rfl) (fun x _=>c_find1 W0 x k n _ _ _ (by simp [lk]) (by simp [lk])) (by omega)
  have hS2:idxI (fun x:OS=>selIs k n x.1) L=S:=by
   rw [<-hS];unfold findI
   clear hS hidx hl hn0 hne hid
   induction L with
   | nil=>rfl
   | cons x L ih=>simp only [List.map_cons,idxI,ih]
  rw [hS2] at hidx
  refine c_calls hidx (fun _ _ h=>h) ?_
  rw [over_self]
  simp only [push_cast,seval,reduceEqDiff,h1,h2]
  intro _
  exact finW_retS (by simp [get]) (fun i e h=>lk_fresh (hn0 i e h) (lk_fresh (hn0 i e h) h))
end Go.Ir
namespace Go.Ir
open Go.Proofs
structure SelO (T:Nat) (lo:Option Id) (L:List OS) (n:Nat):Prop where
 nd:((selS T lo L).map (·.1)).Nodup
 lt:∀p∈selS T lo L,p.1.1<n
 ne:lo=none->L=[]
 kn:∀x∈L,x.2=none->x.1.keys=[]
theorem SelO.more {T:Nat} {lo:Option Id} {L:List OS} {n n':Nat} (h:SelO T lo L n) (hn:n<=n'):SelO T lo L n':=⟨h.nd,fun p hp=>Nat.lt_of_lt_of_le (h.lt p hp) hn,h.ne,h.kn⟩
theorem selS_none {T:Nat} {L:List OS}:selS T none L=ossE L:=rfl
theorem selS_some {T:Nat} {id:Id} {L:List OS}:selS T (some id) L=(id,.arr T 3 (L.map osV))::ossE L:=rfl
theorem nd_cons {a:Id × Ent} {σ:Sto} (h:(σ.map (·.1)).Nodup) (ha:∀p∈σ,p.1≠a.1):((a::σ).map (·.1)).Nodup:=by
 rw [List.map_cons,List.nodup_cons]
 refine ⟨fun hm=>?_,h⟩
 obtain ⟨p,hp,he⟩:=List.mem_map.1 hm
 exact ha p hp he
theorem nd_inv {a:Id × Ent} {σ:Sto} (h:((a::σ).map (·.1)).Nodup):(σ.map (·.1)).Nodup/\∀p∈σ,p.1≠a.1:=by
 rw [List.map_cons,List.nodup_cons] at h
 exact ⟨h.2,fun p hp he=>h.1 (List.mem_map.2 ⟨p,hp,he⟩)⟩
theorem nd_app {σ τ:Sto} (h:(σ.map (·.1)).Nodup) (k:(τ.map (·.1)).Nodup) (hd:∀p∈σ,∀q∈τ,p.1≠q.1):((σ++τ).map (·.1)).Nodup:=by
 rw [List.map_append,List.nodup_append]
 refine ⟨h,k,fun a ha b hb he=>?_⟩
 obtain ⟨p,hp,rfl⟩:=List.mem_map.1 ha
 obtain ⟨q,hq,rfl⟩:=List.mem_map.1 hb
 exact hd p hp q hq he
theorem nd_app_inv {σ τ:Sto} (h:((σ++τ).map (·.1)).Nodup):(σ.map (·.1)).Nodup/\(τ.map (·.1)).Nodup/\∀p∈σ,∀q∈τ,p.1≠q.1:=by
 rw [List.map_append,List.nodup_append] at h
 exact ⟨h.1,h.2.1,fun p hp q hq=>h.2.2 _ (List.mem_map.2 ⟨p,hp,rfl⟩) _ (List.mem_map.2 ⟨q,hq,rfl⟩)⟩
theorem nd_sub {σ τ:Sto} (h:(σ.map (·.1)).Nodup) (hs:List.Sublist τ σ):(τ.map (·.1)).Nodup:=h.sublist (hs.map _)
theorem SelO.arr {T:Nat} {lid:Id} {L:List OS} {n:Nat} (h:SelO T (some lid) L n):lid.1<n/\(∀p∈ossE L,p.1≠lid)/\(∀p∈ossE L,p.1.1<n)/\((ossE L).map (·.1)).Nodup:=by
 have h1:((ossE L).map (·.1)).Nodup/\∀p∈ossE L,p.1≠lid:=nd_inv (a:=(lid,.arr T 3 (L.map osV))) h.nd
 exact ⟨h.lt (lid,.arr T 3 (L.map osV)) (by simp [selS_some]),h1.2,fun p hp=>h.lt p (by simp [selS_some,hp]),h1.1⟩
theorem SelO.add {T:Nat} {lo:Option Id} {L:List OS} {n n':Nat} {id:Id} (h:SelO T lo L n) (hi:n<=id.1) (hi':id.1<n') (k:Int) (nm:Bytes):SelO T (some id) (L++[(⟨k,nm,[]⟩,none)]) n':=by
 have hE:ossE (L++[(⟨k,nm,[]⟩,none)])=ossE L:=by rw [ossE_app];simp [ossE,osE]
 have hsub:∀p∈ossE L,p∈selS T lo L:=fun p hp=>List.mem_append_right _ hp
 have hnd:((ossE L).map (·.1)).Nodup:=nd_sub h.nd (List.sublist_append_right _ _)
 refine ⟨?_,?_,(by simp),?_⟩
 ·rw [selS_some,hE]
  refine nd_cons hnd fun p hp he=>?_
  have:=h.lt p (hsub p hp)
  simp only at he
  rw [he] at this;omega
 ·rw [selS_some,hE]
  intro p hp
  rcases List.mem_cons.1 hp with rfl|hp
  ·exact hi'
  ·have:=h.lt p (hsub p hp);omega
 ·intro x hx hn
  rcases List.mem_append.1 hx with hx|hx
  ·exact h.kn x hx hn
  ·simp at hx;rw [hx]
theorem SelO.key {T:Nat} {lid:Id} {A B:List OS} {x:OS} {n n':Nat} {id:Id} (h:SelO T (some lid) (A++x::B) n) (hi:n<=id.1) (hi':id.1<n') (s:Sel):SelO T (some lid) (A++(s,some id)::B) n':=by
 obtain ⟨h1,h2,h3,h4⟩:=h.arr
 have hE:ossE (A++x::B)=ossE A++(osE x++ossE B):=by rw [ossE_app,ossE_cons]
 have hE2:ossE (A++(s,some id)::B)=ossE A++((id,.arr 9 1 (s.keys.map V.s))::ossE B):=by rw [ossE_app,ossE_cons];rfl
 rw [hE] at h2 h3 h4
 have hold:∀p∈ossE A++ossE B,p.1≠lid/\p.1.1<n:=by
  intro p hp
  have:p∈ossE A++(osE x++ossE B):=by
   rcases List.mem_append.1 hp with hp|hp
   ·exact List.mem_append_left _ hp
   ·exact List.mem_append_right _ (List.mem_append_right _ hp)
  exact ⟨h2 p this,h3 p this⟩
 have hnd:((ossE A++ossE B).map (·.1)).Nodup:=nd_sub h4 ((List.Sublist.refl _).append (List.sublist_append_right _ _))
 obtain ⟨n1,n2,n3⟩:=nd_app_inv hnd
 refine ⟨?_,?_,(by simp),?_⟩
 ·rw [selS_some,hE2]
  refine nd_cons (nd_app n1 (nd_cons n2 fun p hp he=>?_) fun p hp q hq=>?_) fun p hp=>?_
  ·have:=(hold p (List.mem_append_right _ hp)).2
   simp only at he
   rw [he] at this;omega
  ·rcases List.mem_cons.1 hq with rfl|hq
   ·intro he
    have:=(hold p (List.mem_append_left _ hp)).2
    simp only at he
    rw [he] at this;omega
   ·exact n3 p hp q hq
  ·rcases List.mem_append.1 hp with hp|hp
   ·exact (hold p (List.mem_append_left _ hp)).1
   ·rcases List.mem_cons.1 hp with rfl|hp
    ·intro he
     simp only at he
     rw [he] at hi;omega
    ·exact (hold p (List.mem_append_right _ hp)).1
 ·rw [selS_some,hE2]
  intro p hp
  rcases List.mem_cons.1 hp with rfl|hp
  ·simp only;omega
  ·rcases List.mem_append.1 hp with hp|hp
   ·have:=(hold p (List.mem_append_left _ hp)).2;omega
   ·rcases List.mem_cons.1 hp with rfl|hp
    ·exact hi'
    ·have:=(hold p (List.mem_append_right _ hp)).2;omega
 ·intro y hy hn
  rcases List.mem_append.1 hy with hy|hy
  ·exact h.kn y (List.mem_append_left _ hy) hn
  ·rcases List.mem_cons.1 hy with rfl|hy
   ·cases hn
   ·exact h.kn y (List.mem_append_right _ (List.mem_cons_of_mem _ hy)) hn
theorem over_pre {σi σo pre:Sto} (h1:∀p∈pre,∀q∈σi,p.1≠q.1):over σi σo (pre++σi)=σo++pre:=by
 have:=over_mid (σi:=σi) (σo:=σo) (pre:=pre) (post:=[]) h1 (by simp)
 simpa using this
theorem set_map (A B:List OS) (x y:OS):((A++x::B).map osV).set A.length (osV y)=(A++y::B).map osV:=by
 simp [List.set_append]
end Go.Ir
namespace Go.Ir
open Go.Proofs
variable (W0 : World)
def TS:Nat:=96
theorem contains_any (l:List Bytes) (k:Bytes):l.contains k=decide (idxI (fun x=>k == x) l>=0):=by
 rw [idxI_ge,List.contains_eq_any_beq]
theorem c_hasA (l:List Bytes) (k:Bytes) (id:Id) (hl:l.length<=2^40):RetS Tryz.prog W0 69 [.arr id,.s k] [(id,.arr 9 1 (l.map V.s))] (.b (l.contains k)) [(id,.arr 9 1 (l.map V.s))]:=by
 rw [contains_any]
 exact containsA_ret W0 (by kernel_rfl) _ _ _ _ (indexSA_ret W0 (f:=111) (e:=9) (by kernel_rfl) l k id _ (by omega))
theorem c_hasN (k:Bytes):RetS Tryz.prog W0 69 [.nil,.s k] [] (.b false) []:=
 containsA_ret W0 (by kernel_rfl) _ _ _ _ (indexN_ret W0 (f:=111) (e:=9) (by kernel_rfl) k)
def colS (cid:Id) (lo:Option Id) (L:List OS):Sto:=(cid,.box (.agg [sv lo]))::selS TS lo L
structure ColO (cid:Id) (lo:Option Id) (L:List OS) (n:Nat):Prop extends SelO TS lo L n where
 c_lt:cid.1<n
 c_ne:∀p∈selS TS lo L,p.1≠cid
theorem ColO.nd' {cid:Id} {lo:Option Id} {L:List OS} {n:Nat} (h:ColO cid lo L n):((colS cid lo L).map (·.1)).Nodup:=nd_cons h.nd h.c_ne
theorem ColO.lt' {cid:Id} {lo:Option Id} {L:List OS} {n:Nat} (h:ColO cid lo L n):∀p∈colS cid lo L,p.1.1<n:=by
 intro p hp
 rcases List.mem_cons.1 hp with rfl|hp
 ·exact h.c_lt
 ·exact h.lt p hp
def FreshS (n:Nat) (lo0:Option Id) (L0:List OS) (lo:Option Id) (L:List OS):Prop:=∀p∈selS TS lo L,n<=p.1.1\/p.1∈(selS TS lo0 L0).map (·.1)
theorem FreshS.refl (n:Nat) (lo:Option Id) (L:List OS):FreshS n lo L lo L:=fun p hp=>.inr (List.mem_map.2 ⟨p,hp,rfl⟩)
theorem FreshS.trans {n n':Nat} {lo0 lo lo':Option Id} {L0 L L':List OS} (h:FreshS n lo0 L0 lo L) (k:FreshS n' lo L lo' L') (hn:n<=n'):FreshS n lo0 L0 lo' L':=by
 intro p hp
 rcases k p hp with h1|h1
 ·exact .inl (Nat.le_trans hn h1)
 ·obtain ⟨q,hq,he⟩:=List.mem_map.1 h1
  rcases h q hq with h2|h2
  ·left;rw [<-he];exact h2
  ·right;rw [<-he];exact h2
theorem ColO.more {cid:Id} {lo:Option Id} {L:List OS} {n n':Nat} (h:ColO cid lo L n) (hn:n<=n'):ColO cid lo L n':=⟨h.toSelO.more hn,Nat.lt_of_lt_of_le h.c_lt hn,h.c_ne⟩
theorem nd_snoc {σ:Sto} {id:Id} {X:Ent} (h:(σ.map (·.1)).Nodup) (hx:∀p∈σ,p.1≠id):((σ++[(id,X)]).map (·.1)).Nodup:=
 nd_app h (by simp) (fun p hp q hq=>by simp at hq;subst hq;exact hx p hp)
theorem fresh_ne {cid:Id} {lo lo':Option Id} {L L':List OS} {n m:Nat} {id:Id} (h:ColO cid lo L m) (hm:m<=id.1) (hn:id.1<n) (hf:FreshS n lo L lo' L'):∀p∈colS cid lo' L',p.1≠id:=by
 intro p hp he
 rcases List.mem_cons.1 hp with rfl|hp
 ·have:=h.c_lt;rw [<-he] at hm;simp only at hm;omega
 ·rcases hf p hp with h1|h1
  ·rw [he] at h1;omega
  ·obtain ⟨q,hq,hqe⟩:=List.mem_map.1 h1
   have:=h.lt q hq
   rw [hqe,he] at this;omega
def WalkR (cid:Id) (lo0:Option Id) (L0:List OS) (spec:List Sel) (n n':Nat) (v:V) (σ':Sto):Prop:=
 v = .tup []/\∃lo L,σ'=colS cid lo L/\ColO cid lo L n'/\L.map (·.1)=spec/\FreshS n lo0 L0 lo L
theorem sub_of {σ τ:Sto} (hnd:(σ.map (·.1)).Nodup) (h:∀p∈τ,p∈σ):∀i e,lk τ i=some e->lk σ i=some e:=fun i e hl=>mem_lk_of hnd (h _ (lk_mem_of hl))
theorem ColO.key {cid lid:Id} {A B:List OS} {x:OS} {n n':Nat} {id:Id} (h:ColO cid (some lid) (A++x::B) n) (hi:n<=id.1) (hi':id.1<n') (s:Sel):ColO cid (some lid) (A++(s,some id)::B) n':=by
 refine ⟨h.toSelO.key hi hi' s,by have:=h.c_lt;omega,fun p hp he=>?_⟩
 rw [selS_some,ossE_app,ossE_cons] at hp
 rcases List.mem_cons.1 hp with rfl|hp
 ·exact h.c_ne (lid,.arr TS 3 ((A++x::B).map osV)) (by simp [selS_some]) he
 ·rcases List.mem_append.1 hp with hp|hp
  ·exact h.c_ne p (by rw [selS_some,ossE_app];exact List.mem_cons_of_mem _ (List.mem_append_left _ hp)) he
  ·rcases List.mem_append.1 hp with hp|hp
   ·simp [osE] at hp
    subst hp
    have:=h.c_lt;simp only at he;rw [he] at hi;omega
   ·exact h.c_ne p (by rw [selS_some,ossE_app,ossE_cons];exact List.mem_cons_of_mem _ (List.mem_append_right _ (List.mem_append_right _ hp))) he
theorem FreshS.key {lid:Id} {A B:List OS} {x:OS} {n:Nat} {id:Id} (hi:n<=id.1) (s:Sel):FreshS n (some lid) (A++x::B) (some lid) (A++(s,some id)::B):=by
 intro p hp
 rw [selS_some,ossE_app,ossE_cons] at hp
 rw [selS_some,ossE_app,ossE_cons]
 rcases List.mem_cons.1 hp with rfl|hp
 ·right;simp
 ·rcases List.mem_append.1 hp with hp|hp
  ·right;exact List.mem_map.2 ⟨p,List.mem_cons_of_mem _ (List.mem_append_left _ hp),rfl⟩
  ·rcases List.mem_append.1 hp with hp|hp
   ·simp [osE] at hp;subst hp;exact .inl hi
   ·right;exact List.mem_map.2 ⟨p,List.mem_cons_of_mem _ (List.mem_append_right _ (List.mem_append_right _ hp)),rfl⟩
theorem mod_map (A B:List OS) (x:OS) (o:Option Id) (f:Sel->Sel):((A++x::B).map (·.1)).modify A.length f=(A++(f x.1,o)::B).map (·.1):=by
 induction A with
 | nil=>rfl
 | cons a A ih=>simpa using ih
theorem loopW_le {P:Program} {W0:World} {nt:Nat} {c:IC} {Q:Exit->St->Prop} {st st':St} (h:StLe W0 nt st st') (k:LoopW P W0 nt c Q st'):LoopW P W0 nt c Q st:=by
 unfold LoopW at *
 exact aWP_le h k
set_option maxHeartbeats 4000000 in
theorem walk_cs (cs:List Case) (cid:Id) (j:Nat) (lid0:Id) (L0:List OS) (n0:Nat) (a9 a10 a11:V) (Q:Exit->St->Prop)
  (hih:∀x∈cs,∀lo L n1,selW (L.map (·.1))+wtPs x.2<=2^26->ColO cid lo L n1->RetE Tryz.prog W0 91 [.ref cid 0,.sl (x.2.map Part.enc)] (colS cid lo L) (WalkR cid lo L (collPs x.2 (L.map (·.1)))))
  (hw:selW (L0.map (·.1))+wtCs cs<=2^26) (hok:ColO cid (some lid0) L0 n0) (hj:j<L0.length)
  (hQ:∀lid L n',L.map (·.1)=collCs cs j (L0.map (·.1))->ColO cid (some lid) L n'->n0<=n'->FreshS n0 (some lid0) L0 (some lid) L->Q (.exit 2) ⟨[(0,.ref cid 0),(6,.i .i64 j),(9,a9),(10,a10),(11,a11),(51,.sl (cs.map Case.enc)),(52,.i .i64 cs.length),(53,.i .i64 cs.length),(54,.b false)],colS cid (some lid) L,n'⟩) :
  LoopW Tryz.prog W0 94 f91_32 Q ⟨[(0,.ref cid 0),(6,.i .i64 j),(9,a9),(10,a10),(11,a11),(51,.sl (cs.map Case.enc)),(52,.i .i64 cs.length),(53,.i .i64 0)],colS cid (some lid0) L0,n0⟩:=by
 have hlc:=len_wtCs cs
 generalize hS:collCs cs j (L0.map (·.1))=S at hQ
 refine aWP_loopW cs.length (Inv:=fun m st=>∃cd cr n lid L,cs=cd++cr/\m=cr.length/\collCs cr j (L.map (·.1))=S/\selW (L.map (·.1))+wtCs cr<=2^26/\ColO cid (some lid) L n/\n0<=n/\FreshS n0 (some lid0) L0 (some lid) L/\j<L.length/\st=⟨[(0,.ref cid 0),(6,.i .i64 j),(9,a9),(10,a10),(11,a11),(51,.sl (cs.map Case.enc)),(52,.i .i64 cs.length),(53,.i .i64 cd.length)],colS cid (some lid) L,n⟩) ⟨_,StLe.refl,[],cs,_,lid0,L0,rfl,rfl,hS,hw,hok,Nat.le_refl _,FreshS.refl _ _ _,hj,rfl⟩ ?_
 clear hS hok hj
 rintro m _ ⟨cd,cr,n,lid,L,hz,rfl,hd,hw,hok,hn0,hfr,hj,rfl⟩
 cases cr with
 | nil=>
  rw [collCs] at hd
  rw [hz] at hQ⊢
  simp only [List.append_nil] at hQ⊢
  simp only [push_cast,seval,reduceEqDiff]
  intro k2
  exact hQ lid L _ hd (hok.more (by omega)) (by omega) hfr
 | cons c cr=>
  have hcb:=zip_bd hz
  have hcm:c∈cs:=by rw [hz];simp
  have hwc:=wtCs_mem hcm
  rw [collCs_cons] at hd
  rw [wtCs_cons] at hw
  obtain ⟨l1,l2,l3,l4⟩:=hok.toSelO.arr
  obtain ⟨A,x,B,hL,hA⟩:∃A x B,L=A++x::B/\A.length=j:=⟨L.take j,L[j],L.drop (j+1),by rw [List.getElem_cons_drop,List.take_append_drop],by simp;omega⟩
  subst hL
  subst hA
  have hlt':=hok.lt'
  have hnd:=hok.nd'
  have hE:ossE (A++x::B)=ossE A++(osE x++ossE B):=by rw [ossE_app,ossE_cons]
  have hlim:(A++x::B).length<=2^26:=by have:=len_selW ((A++x::B).map (·.1));rw [List.length_map] at this;omega
  simp only [push_cast,seval,reduceEqDiff,hz,wrap_zip c (done:=cd) (by omega)]
  intro k2 k3
  have hy:∀q∈colS cid (some lid) (A++x::B),q.1≠(n+1+k2,8):=by
   intro q hq he
   have:=hlt' q hq;rw [he] at this;simp at this;omega
  refine wkW_i (StLe.sub (nd_cons hnd hy) (σ':=((n+1+k2,8),.box (.agg [.s c.1,.sl (c.2.map Part.enc)]))::(cid,.box (.agg [.arr lid]))::(lid,.arr TS 3 ((A++x::B).map osV))::(osE x++(ossE A++ossE B))) (fun q hq=>?_) (Nat.le_refl _)) ?_
  ·simp only [colS,selS_some,hE,List.mem_cons,List.mem_append] at hq⊢
   rcases hq with h|h|h|h|h|h
   ·exact .inl h
   ·exact .inr (.inl h)
   ·exact .inr (.inr (.inl h))
   ·exact .inr (.inr (.inr (.inr (.inl h))))
   ·exact .inr (.inr (.inr (.inl h)))
   ·exact .inr (.inr (.inr (.inr (.inr h))))
  have hyn:n<n+1+k2/\n+1+k2<n+1+k2+1+k3:=by omega
  generalize n+1+k2=y0 at *
  generalize hm1:y0+1+k3=m1 at *
  have hcn:=hok.c_lt
  have fycid:((y0,8)=cid)=False:=eq_false fun he=>by rw [<-he] at hcn;simp at hcn;omega
  have fcidy:(cid=(y0,8))=False:=eq_false fun he=>of_eq_false fycid he.symm
  have fylid:((y0,8)=lid)=False:=eq_false fun he=>by rw [<-he] at l1;simp at l1;omega
  have flidy:(lid=(y0,8))=False:=eq_false fun he=>of_eq_false fylid he.symm
  have fcl:(cid=lid)=False:=eq_false fun he=>hok.c_ne (lid,.arr TS 3 ((A++x::B).map osV)) (by simp [selS_some]) he.symm
  have flc:(lid=cid)=False:=eq_false fun he=>of_eq_false fcl he.symm
  have fncid:∀k,((m1+1+k,85)=cid)=False:=fun k=>eq_false fun he=>by rw [<-he] at hcn;simp at hcn;omega
  have fnlid:∀k,((m1+1+k,85)=lid)=False:=fun k=>eq_false fun he=>by rw [<-he] at l1;simp at l1;omega
  have hget:((A++x::B).map osV)[A.length]? = some (osV x):=by simp
  have hjl:A.length<((A++x::B).map osV).length:=by simp
  rcases x with ⟨s,ko⟩
  cases ko with
  | none=>
   have hsk:s.keys=[]:=hok.kn (s,none) (by simp) rfl
   have hTE:∀q∈ossE A++ossE B,q.1≠lid/\q.1≠cid/\q.1.1<n:=by
    intro q hq
    have hq2:q∈ossE (A++(s,none)::B):=by rw [hE];simpa [osE] using hq
    exact ⟨l2 q hq2,hok.c_ne q (by rw [selS_some];exact List.mem_cons_of_mem _ hq2),l3 q hq2⟩
   have hov:osV (s,none) = .agg [.i .i64 s.kind,.s s.name,.nil]:=rfl
   simp only [osE,List.nil_append]
   generalize hT:ossE A++ossE B=T at *
   simp only [push_cast,seval,reduceEqDiff,hz,wrap_zip c (done:=cd) (by omega),if_pos hj,hov,TS,fycid,fcidy,fylid,flidy,fcl,flc,fncid,fnlid]
   refine c_callsq (c_hasN W0 c.1) ?_
   simp only [push_cast,seval,reduceEqDiff,hz,wrap_zip c (done:=cd) (by omega),if_pos hj,hov,TS,fycid,fcidy,fylid,flidy,fcl,flc,fncid,fnlid]
   intro k4
   have hset:∀id,(List.map osV (A++(s,none)::B)).set A.length (.agg [.i .i64 s.kind,.s s.name,.arr id])=List.map osV (A++((⟨s.kind,s.name,[c.1]⟩:Sel),some id)::B):=fun id=>set_map A B (s,none) (⟨s.kind,s.name,[c.1]⟩,some id)
   simp only [push_cast,seval,reduceEqDiff,hz,wrap_zip c (done:=cd) (by omega),if_pos hj,hov,TS,fycid,fcidy,fylid,flidy,fcl,flc,fncid,fnlid,eq_true (show 1<=LLim by decide),hset]
   intro k5 k6
   obtain ⟨L2,hL2⟩:∃L2,L2=A++((⟨s.kind,s.name,[c.1]⟩:Sel),some (m1+1+k4,85))::B:=⟨_,rfl⟩
   obtain ⟨N2,hN2⟩:∃N2,N2=m1+1+k4+1:=⟨_,rfl⟩
   have hok2:ColO cid (some lid) L2 N2:=by rw [hL2,hN2];exact hok.key (by simp;omega) (by simp) _
   have hfr2:FreshS n (some lid) (A++(s,none)::B) (some lid) L2:=by rw [hL2];exact FreshS.key (by simp;omega) _
   have hspec:((A++(s,none)::B).map (·.1)).modify A.length (addKey c.1)=L2.map (·.1):=by
    rw [hL2,mod_map A B (s,none) (some (m1+1+k4,85))]
    simp [addKey,hsk]
   have hTn:(T.map (·.1)).Nodup:=by rw [<-hT];simpa [hE,osE] using l4
   have hnd2:∀X Y Z:Ent,((((m1+1+k4,85),X)::((y0,8),Y)::(cid,.box (.agg [.arr lid]))::(lid,Z)::T).map (fun q:Id × Ent=>q.1)).Nodup:=fun X Y Z=>
    nd_cons (nd_cons (nd_cons (nd_cons hTn fun q hq=>(hTE q hq).1) fun q hq=>by
     rcases List.mem_cons.1 hq with rfl|hq
     ·exact of_eq_false flc
     ·exact (hTE q hq).2.1) fun q hq=>by
     rcases List.mem_cons.1 hq with rfl|hq
     ·exact of_eq_false fcidy
     ·rcases List.mem_cons.1 hq with rfl|hq
      ·exact of_eq_false flidy
      ·intro he;have:=(hTE q hq).2.2;rw [he] at this;simp at this;omega) fun q hq=>by
     rcases List.mem_cons.1 hq with rfl|hq
     ·simp
     ·rcases List.mem_cons.1 hq with rfl|hq
      ·exact fun he=>of_eq_false (fncid k4) he.symm
      ·rcases List.mem_cons.1 hq with rfl|hq
       ·exact fun he=>of_eq_false (fnlid k4) he.symm
       ·intro he;have:=(hTE q hq).2.2;rw [he] at this;simp at this;omega
   have hnd2:=hnd2 (.arr 9 1 [.s c.1]) (.box (.agg [.s c.1,.sl (c.2.map Part.enc)])) (.arr TS 3 (L2.map osV))
   have hsub2:∀q∈colS cid (some lid) L2,q∈((m1+1+k4,85),Ent.arr 9 1 [.s c.1])::((y0,8),Ent.box (.agg [.s c.1,.sl (c.2.map Part.enc)]))::(cid,.box (.agg [.arr lid]))::(lid,.arr TS 3 (L2.map osV))::T:=by
    intro q hq
    have hE2:ossE L2=ossE A++(((m1+1+k4,85),.arr 9 1 [.s c.1])::ossE B):=by rw [hL2,ossE_app,ossE_cons];rfl
    simp only [colS,selS_some,hE2,<-hT,sv,List.mem_cons,List.mem_append] at hq⊢
    rcases hq with h|h|h|h|h
    ·exact .inr (.inr (.inl h))
    ·exact .inr (.inr (.inr (.inl h)))
    ·exact .inr (.inr (.inr (.inr (.inl h))))
    ·exact .inl h
    ·exact .inr (.inr (.inr (.inr (.inr h))))
   rw [<-hL2]
   refine c_callx (hih c hcm (some lid) L2 N2 (by rw [<-hspec];have:=selW_mod ((A++(s,none)::B).map (·.1)) A.length c.1;omega) hok2) (sub_of hnd2 hsub2) (fun n2 v σo hle hR=>?_)
   obtain ⟨rfl,lo1,L1,rfl,hok3,hm3,hf3⟩:=hR
   rw [<-hspec] at hm3
   have hex:=(coll_same _ c.2 (Nat.lt_succ_self _) (((A++(s,none)::B).map (·.1)).modify A.length (addKey c.1))).2.1
   rw [<-hm3] at hex
   rw [List.length_modify,List.length_map,List.length_map] at hex
   have h1:=collPs_w c.2 (((A++(s,none)::B).map (·.1)).modify A.length (addKey c.1))
   have h2:=selW_mod ((A++(s,none)::B).map (·.1)) A.length c.1
   rw [<-hm3] at h1 hd
   cases lo1 with
   | none=>have:=hok3.ne rfl;subst this;simp at hex
   | some lid1=>
    simp only [push_cast,seval,reduceEqDiff,hz,wrap_zip c (done:=cd) (by omega)]
    intros
    exact ⟨_,_,Nat.lt_succ_self _,StLe.drop (fun i e hl=>lk_app_left hl) (Nat.le_refl _),cd++[c],cr,_,lid1,L1,by simp,rfl,hd,by omega,hok3.more (by omega),by omega,(hfr.trans hfr2 (by omega)).trans hf3 (by omega),by omega,rfl⟩
  | some kid=>
   have hke:lid≠kid:=fun he=>l2 (kid,.arr 9 1 (s.keys.map V.s)) (by rw [hE];simp [osE]) he.symm
   have hkc:kid≠cid:=hok.c_ne (kid,.arr 9 1 (s.keys.map V.s)) (by rw [selS_some,hE];simp [osE])
   have hkn:kid.1<n:=l3 (kid,.arr 9 1 (s.keys.map V.s)) (by rw [hE];simp [osE])
   have fkl:(kid=lid)=False:=eq_false (Ne.symm hke)
   have flk:(lid=kid)=False:=eq_false hke
   have fkc:(kid=cid)=False:=eq_false hkc
   have fck:(cid=kid)=False:=eq_false (Ne.symm hkc)
   have fky:(kid=(y0,8))=False:=eq_false fun he=>by rw [he] at hkn;simp at hkn;omega
   have fyk:((y0,8)=kid)=False:=eq_false fun he=>of_eq_false fky he.symm
   have fnk:∀k,((m1+1+k,85)=kid)=False:=fun k=>eq_false fun he=>by rw [<-he] at hkn;simp at hkn;omega
   have hTE:∀q∈ossE A++ossE B,q.1≠lid/\q.1≠cid/\q.1.1<n/\q.1≠kid:=by
    intro q hq
    have hq2:q∈ossE (A++(s,some kid)::B):=by
     rw [hE]
     rcases List.mem_append.1 hq with h|h
     ·exact List.mem_append_left _ h
     ·exact List.mem_append_right _ (List.mem_append_right _ h)
    refine ⟨l2 q hq2,hok.c_ne q (by rw [selS_some];exact List.mem_cons_of_mem _ hq2),l3 q hq2,?_⟩
    rw [hE] at l4
    obtain ⟨n1,n2,n3⟩:=nd_app_inv l4
    obtain ⟨n4,n5,n6⟩:=nd_app_inv n2
    rcases List.mem_append.1 hq with h|h
    ·exact n3 q h (kid,.arr 9 1 (s.keys.map V.s)) (List.mem_append_left _ (by simp [osE]))
    ·exact (n6 (kid,.arr 9 1 (s.keys.map V.s)) (by simp [osE]) q h).symm
   have hTn:((ossE A++ossE B).map (·.1)).Nodup:=by
    rw [hE] at l4
    exact nd_sub l4 ((List.Sublist.refl _).append (List.sublist_append_right _ _))
   have hov:osV (s,some kid) = .agg [.i .i64 s.kind,.s s.name,.arr kid]:=rfl
   have hkl:s.keys.length<=2^26:=by have:=keys_selW (l:=(A++(s,some kid)::B).map (·.1)) (s:=s) (by simp);omega
   simp only [osE,List.cons_append,List.nil_append]
   generalize hT:ossE A++ossE B=T at *
   have hnd0:∀X Y:Ent,(([((y0,8),X),(cid,.box (.agg [.arr lid])),(lid,Y)]++T).map (fun q:Id × Ent=>q.1)).Nodup:=fun X Y=>
    nd_cons (nd_cons (nd_cons hTn fun q hq=>(hTE q hq).1) fun q hq=>by
     rcases List.mem_cons.1 hq with rfl|hq
     ·exact of_eq_false flc
     ·exact (hTE q hq).2.1) fun q hq=>by
     rcases List.mem_cons.1 hq with rfl|hq
     ·exact of_eq_false fcidy
     ·rcases List.mem_cons.1 hq with rfl|hq
      ·exact of_eq_false flidy
      ·intro he;have:=(hTE q hq).2.2.1;rw [he] at this;simp at this;omega
   have hin:=c_hasA W0 s.keys c.1 kid (by omega)
   have hovk:∀X Y Z:Ent,over [(kid,Z)] [(kid,Z)] (((y0,8),X)::(cid,.box (.agg [.arr lid]))::(lid,Y)::(kid,Z)::T)=(kid,Z)::((y0,8),X)::(cid,.box (.agg [.arr lid]))::(lid,Y)::T:=fun X Y Z=>
    over_mid (σi:=[(kid,Z)]) (pre:=[((y0,8),X),(cid,.box (.agg [.arr lid])),(lid,Y)]) (post:=T) (fun q hq r hr=>by
     simp at hr;subst hr
     simp at hq
     rcases hq with rfl|rfl|rfl
     ·exact of_eq_false fyk
     ·exact of_eq_false fck
     ·exact of_eq_false flk) (fun q hq r hr=>by simp at hr;subst hr;exact (hTE q hq).2.2.2)
   have hsubk:∀X Y Z:Ent,∀i e,lk [(kid,Z)] i=some e->lk (((y0,8),X)::(cid,.box (.agg [.arr lid]))::(lid,Y)::(kid,Z)::T) i=some e:=by
    intro X Y Z i e h
    simp only [lk] at h
    split at h
    ·rename_i h1;subst h1
     simp only [lk,fyk,fck,flk,if_false,if_true];exact h
    ·cases h
   generalize hIN:s.keys.contains c.1=IN at *
   have hset:∀id,(List.map osV (A++(s,some kid)::B)).set A.length (.agg [.i .i64 s.kind,.s s.name,.arr id])=List.map osV (A++((⟨s.kind,s.name,s.keys++[c.1]⟩:Sel),some id)::B):=fun id=>set_map A B (s,some kid) (⟨s.kind,s.name,s.keys++[c.1]⟩,some id)
   have hkm:List.map V.s s.keys++[V.s c.1]=List.map V.s (s.keys++[c.1]):=by simp
   have hlk:s.keys.length+1<=LLim:=by unfold LLim;omega
   have hdT:=del_none (fun q hq=>(hTE q hq).2.2.2)
   cases IN with
   | true=>
    simp only [push_cast,seval,reduceEqDiff,hz,wrap_zip c (done:=cd) (by omega),if_pos hj,hov,TS,fycid,fcidy,fylid,flidy,fcl,flc,fncid,fnlid,fkl,flk,fkc,fck,fky,fyk,fnk]
    refine c_calls hin (hsubk _ _ _) ?_
    rw [hovk]
    simp only [push_cast,seval,reduceEqDiff,hz,wrap_zip c (done:=cd) (by omega),if_pos hj,hov,TS,fycid,fcidy,fylid,flidy,fcl,flc,fncid,fnlid,fkl,flk,fkc,fck,fky,fyk,fnk]
    intro k5 k6
    obtain ⟨L2,hL2⟩:∃L2,L2=A++(s,some kid)::B:=⟨_,rfl⟩
    obtain ⟨N2,hN2⟩:∃N2,N2=m1:=⟨_,rfl⟩
    have hok2:ColO cid (some lid) L2 N2:=by rw [hL2,hN2];exact hok.more (by omega)
    have hfr2:FreshS n (some lid) (A++(s,some kid)::B) (some lid) L2:=by rw [hL2];exact FreshS.refl _ _ _
    have hspec:((A++(s,some kid)::B).map (·.1)).modify A.length (addKey c.1)=L2.map (·.1):=by
     rw [hL2,mod_map A B (s,some kid) (some kid)]
     simp only [addKey,hIN,if_true]
    have hnd2:=nd_cons (a:=(kid,.arr 9 1 (s.keys.map V.s))) (hnd0 (.box (.agg [.s c.1,.sl (c.2.map Part.enc)])) (.arr TS 3 (L2.map osV))) (fun q hq=>by
     rcases List.mem_cons.1 hq with rfl|hq
     ·exact of_eq_false fyk
     ·rcases List.mem_cons.1 hq with rfl|hq
      ·exact of_eq_false fck
      ·rcases List.mem_cons.1 hq with rfl|hq
       ·exact of_eq_false flk
       ·exact (hTE q hq).2.2.2)
    have hsub2:∀q∈colS cid (some lid) L2,q∈(kid,Ent.arr 9 1 (s.keys.map V.s))::([((y0,8),Ent.box (.agg [.s c.1,.sl (c.2.map Part.enc)])),(cid,.box (.agg [.arr lid])),(lid,.arr TS 3 (L2.map osV))]++T):=by
     intro q hq
     have hE2:ossE L2=ossE A++((kid,.arr 9 1 (s.keys.map V.s))::ossE B):=by rw [hL2,ossE_app,ossE_cons];rfl
     simp only [colS,selS_some,hE2,<-hT,sv,List.mem_cons,List.mem_append] at hq⊢
     rcases hq with h|h|h|h|h
     ·exact .inr (.inl (.inr (.inl h)))
     ·exact .inr (.inl (.inr (.inr (.inl h))))
     ·exact .inr (.inr (.inl h))
     ·exact .inl h
     ·exact .inr (.inr (.inr h))
    rw [<-hL2]
    refine c_callx (hih c hcm (some lid) L2 N2 (by rw [<-hspec];have:=selW_mod ((A++(s,some kid)::B).map (·.1)) A.length c.1;omega) hok2) (sub_of hnd2 hsub2) (fun n2 v σo hle hR=>?_)
    obtain ⟨rfl,lo1,L1,rfl,hok3,hm3,hf3⟩:=hR
    rw [<-hspec] at hm3
    have hex:=(coll_same _ c.2 (Nat.lt_succ_self _) (((A++(s,some kid)::B).map (·.1)).modify A.length (addKey c.1))).2.1
    rw [<-hm3] at hex
    rw [List.length_modify,List.length_map,List.length_map] at hex
    have h1:=collPs_w c.2 (((A++(s,some kid)::B).map (·.1)).modify A.length (addKey c.1))
    have h2:=selW_mod ((A++(s,some kid)::B).map (·.1)) A.length c.1
    rw [<-hm3] at h1 hd
    cases lo1 with
    | none=>have:=hok3.ne rfl;subst this;simp at hex
    | some lid1=>
     simp only [push_cast,seval,reduceEqDiff,hz,wrap_zip c (done:=cd) (by omega)]
     intros
     exact ⟨_,_,Nat.lt_succ_self _,StLe.drop (fun i e hl=>lk_app_left hl) (Nat.le_refl _),cd++[c],cr,_,lid1,L1,by simp,rfl,hd,by omega,hok3.more (by omega),by omega,(hfr.trans hfr2 (by omega)).trans hf3 (by omega),by omega,rfl⟩
   | false=>
    simp only [push_cast,seval,reduceEqDiff,hz,wrap_zip c (done:=cd) (by omega),if_pos hj,hov,TS,fycid,fcidy,fylid,flidy,fcl,flc,fncid,fnlid,fkl,flk,fkc,fck,fky,fyk,fnk,eq_true hlk,hset,hdT,hkm,List.length_map]
    refine c_calls hin (hsubk _ _ _) ?_
    rw [hovk]
    simp only [push_cast,seval,reduceEqDiff,hz,wrap_zip c (done:=cd) (by omega),if_pos hj,hov,TS,fycid,fcidy,fylid,flidy,fcl,flc,fncid,fnlid,fkl,flk,fkc,fck,fky,fyk,fnk,eq_true hlk,hset,hdT,hkm,List.length_map]
    intro k4 k5 k6
    obtain ⟨L2,hL2⟩:∃L2,L2=A++((⟨s.kind,s.name,s.keys++[c.1]⟩:Sel),some (m1+1+k4,85))::B:=⟨_,rfl⟩
    obtain ⟨N2,hN2⟩:∃N2,N2=m1+1+k4+1:=⟨_,rfl⟩
    have hok2:ColO cid (some lid) L2 N2:=by rw [hL2,hN2];exact hok.key (by simp;omega) (by simp) _
    have hfr2:FreshS n (some lid) (A++(s,some kid)::B) (some lid) L2:=by rw [hL2];exact FreshS.key (by simp;omega) _
    have hspec:((A++(s,some kid)::B).map (·.1)).modify A.length (addKey c.1)=L2.map (·.1):=by
     rw [hL2,mod_map A B (s,some kid) (some (m1+1+k4,85))]
     simp only [addKey,hIN,if_false,Bool.false_eq_true]
    have hnd2:=nd_cons (a:=((m1+1+k4,85),.arr 9 1 ((s.keys++[c.1]).map V.s))) (hnd0 (.box (.agg [.s c.1,.sl (c.2.map Part.enc)])) (.arr TS 3 (L2.map osV))) (fun q hq=>by
     rcases List.mem_cons.1 hq with rfl|hq
     ·simp
     ·rcases List.mem_cons.1 hq with rfl|hq
      ·exact fun he=>of_eq_false (fncid k4) he.symm
      ·rcases List.mem_cons.1 hq with rfl|hq
       ·exact fun he=>of_eq_false (fnlid k4) he.symm
       ·intro he;have:=(hTE q hq).2.2.1;rw [he] at this;simp at this;omega)
    have hsub2:∀q∈colS cid (some lid) L2,q∈((m1+1+k4,85),Ent.arr 9 1 ((s.keys++[c.1]).map V.s))::([((y0,8),Ent.box (.agg [.s c.1,.sl (c.2.map Part.enc)])),(cid,.box (.agg [.arr lid])),(lid,.arr TS 3 (L2.map osV))]++T):=by
     intro q hq
     have hE2:ossE L2=ossE A++(((m1+1+k4,85),.arr 9 1 ((s.keys++[c.1]).map V.s))::ossE B):=by rw [hL2,ossE_app,ossE_cons];rfl
     simp only [colS,selS_some,hE2,<-hT,sv,List.mem_cons,List.mem_append] at hq⊢
     rcases hq with h|h|h|h|h
     ·exact .inr (.inl (.inr (.inl h)))
     ·exact .inr (.inl (.inr (.inr (.inl h))))
     ·exact .inr (.inr (.inl h))
     ·exact .inl h
     ·exact .inr (.inr (.inr h))
    rw [<-hL2]
    refine c_callx (hih c hcm (some lid) L2 N2 (by rw [<-hspec];have:=selW_mod ((A++(s,some kid)::B).map (·.1)) A.length c.1;omega) hok2) (sub_of hnd2 hsub2) (fun n2 v σo hle hR=>?_)
    obtain ⟨rfl,lo1,L1,rfl,hok3,hm3,hf3⟩:=hR
    rw [<-hspec] at hm3
    have hex:=(coll_same _ c.2 (Nat.lt_succ_self _) (((A++(s,some kid)::B).map (·.1)).modify A.length (addKey c.1))).2.1
    rw [<-hm3] at hex
    rw [List.length_modify,List.length_map,List.length_map] at hex
    have h1:=collPs_w c.2 (((A++(s,some kid)::B).map (·.1)).modify A.length (addKey c.1))
    have h2:=selW_mod ((A++(s,some kid)::B).map (·.1)) A.length c.1
    rw [<-hm3] at h1 hd
    cases lo1 with
    | none=>have:=hok3.ne rfl;subst this;simp at hex
    | some lid1=>
     simp only [push_cast,seval,reduceEqDiff,hz,wrap_zip c (done:=cd) (by omega)]
     intros
     exact ⟨_,_,Nat.lt_succ_self _,StLe.drop (fun i e hl=>lk_app_left hl) (Nat.le_refl _),cd++[c],cr,_,lid1,L1,by simp,rfl,hd,by omega,hok3.more (by omega),by omega,(hfr.trans hfr2 (by omega)).trans hf3 (by omega),by omega,rfl⟩
end Go.Ir
