/- The engine and the contracts on which the statement stands: no conditions of its own. -/
import Derived.Shelf.Strings.Repeat
import Derived.Shelf.Strings.Builder1
import Derived.Shelf.Strings.SlTrimAscii
import Derived.Shelf.Strings.Search2
import Derived.Shelf.Strconv.Atoi
import Derived.Shelf.Strconv.Itoa3
import Derived.Test.YtchfmldhdbknlaaGreatDoorProg
import Derived.WalkKit
import Derived.Laws.IdiomCopy
import Derived.Laws.Cells
import Derived.Laws.Tables
import Derived.Lib.ConvBytes
import Derived.ChangeKeysEq
set_option linter.unusedSimpArgs false
set_option linter.unusedVariables false
set_option linter.unusedSectionVars false
namespace Go.Proofs
open Go.Shelf
def Tryz.lren:Go.Shelf.Ren:=⟨fun|37=>175|99=>145|105=>123|119=>212|120=>202|128=>179|129=>207|133=>155|137=>211|145=>118|151=>186|152=>201|160=>141|165=>146|166=>125|167=>124|169=>126|170=>147|171=>122|172=>142|197=>185|206=>172|212=>144|217=>180|219=>158|220=>139|224=>182|225=>181|227=>162|228=>184|231=>160|232=>161|233=>163|234=>164|235=>165|236=>166|240=>148|241=>173|243=>143|244=>167|245=>168|246=>169|247=>188|260=>200|263=>170|264=>171|266=>198|267=>183|271=>187|276=>174|277=>197|279=>189|280=>190|281=>191|282=>192|283=>193|284=>194|285=>195|286=>196|287=>203|314=>199|316=>204|317=>206|318=>208|319=>209|320=>210|321=>213|322=>214|337=>215|338=>216|n=>n,fun|37=>149|46=>132|51=>131|53=>129|59=>139|70=>148|72=>151|75=>153|76=>155|80=>50|85=>210|105=>206|109=>169|116=>188|117=>189|119=>233|124=>192|127=>174|138=>235|139=>236|143=>240|145=>242|146=>195|148=>197|164=>199|167=>209|168=>212|171=>215|173=>218|175=>223|210=>227|212=>230|213=>231|232=>243|233=>244|n=>n,fun|1=>2|3=>6|4=>7|15=>3|16=>4|17=>5|18=>8|19=>9|n=>n⟩
theorem Tryz.l105:Go.Proofs.Lays.n105 Tryz.prog Tryz.lren:={
 mixed:=by kernel_rfl
 f99:=Tryz.func145.trans (congrArg some (by kernel_rfl))
 f105:=Tryz.func123.trans (congrArg some (by kernel_rfl))
 f165:=Tryz.func146.trans (congrArg some (by kernel_rfl))
 f166:=Tryz.func125.trans (congrArg some (by kernel_rfl))
 f169:=Tryz.func126.trans (congrArg some (by kernel_rfl))
 f170:=Tryz.func147.trans (congrArg some (by kernel_rfl))
 f206:=Tryz.func172.trans (congrArg some (by kernel_rfl))
 f212:=Tryz.func144.trans (congrArg some (by kernel_rfl))
 f240:=Tryz.func148.trans (congrArg some (by kernel_rfl))
 f241:=Tryz.func173.trans (congrArg some (by kernel_rfl))
 f263:=Tryz.func170.trans (congrArg some (by kernel_rfl))
 f264:=Tryz.func171.trans (congrArg some (by kernel_rfl))
 f276:=Tryz.func174.trans (congrArg some (by kernel_rfl))
 f277:=Tryz.func197.trans (congrArg some (by kernel_rfl))
 t0:=Tryz.underlying0
 a0:=Tryz.isAgg0
 z0:=Tryz.sizeOf0
 v0:=Tryz.zeroValue0
 t3:=Tryz.underlying3
 a3:=Tryz.isAgg3
 z3:=Tryz.sizeOf3
 v3:=Tryz.zeroValue3
 t4:=Tryz.underlying4
 a4:=Tryz.isAgg4
 z4:=Tryz.sizeOf4
 v4:=Tryz.zeroValue4
 t5:=Tryz.underlying5
 a5:=Tryz.isAgg5
 z5:=Tryz.sizeOf5
 v5:=Tryz.zeroValue5
 t9:=Tryz.underlying9
 a9:=Tryz.isAgg9
 z9:=Tryz.sizeOf9
 v9:=Tryz.zeroValue9
 t20:=Tryz.underlying20
 a20:=Tryz.isAgg20
 z20:=Tryz.sizeOf20
 v20:=Tryz.zeroValue20
 t37:=Tryz.underlying149
 a37:=Tryz.isAgg149
 z37:=Tryz.sizeOf149
 v37:=Tryz.zeroValue149
 t46:=Tryz.underlying132
 a46:=Tryz.isAgg132
 z46:=Tryz.sizeOf132
 v46:=Tryz.zeroValue132
 t51:=Tryz.underlying131
 a51:=Tryz.isAgg131
 z51:=Tryz.sizeOf131
 v51:=Tryz.zeroValue131
 t53:=Tryz.underlying129
 a53:=Tryz.isAgg129
 z53:=Tryz.sizeOf129
 v53:=Tryz.zeroValue129
 t70:=Tryz.underlying148
 a70:=Tryz.isAgg148
 z70:=Tryz.sizeOf148
 v70:=Tryz.zeroValue148
 t72:=Tryz.underlying151
 a72:=Tryz.isAgg151
 z72:=Tryz.sizeOf151
 v72:=Tryz.zeroValue151
 t75:=Tryz.underlying153
 a75:=Tryz.isAgg153
 z75:=Tryz.sizeOf153
 v75:=Tryz.zeroValue153
 t76:=Tryz.underlying155
 a76:=Tryz.isAgg155
 z76:=Tryz.sizeOf155
 v76:=Tryz.zeroValue155
 t109:=Tryz.underlying169
 a109:=Tryz.isAgg169
 z109:=Tryz.sizeOf169
 v109:=Tryz.zeroValue169
 t127:=Tryz.underlying174
 a127:=Tryz.isAgg174
 z127:=Tryz.sizeOf174
 v127:=Tryz.zeroValue174
 t146:=Tryz.underlying195
 a146:=Tryz.isAgg195
 z146:=Tryz.sizeOf195
 v146:=Tryz.zeroValue195
 t148:=Tryz.underlying197
 a148:=Tryz.isAgg197
 z148:=Tryz.sizeOf197
 v148:=Tryz.zeroValue197
 t164:=Tryz.underlying199
 a164:=Tryz.isAgg199
 z164:=Tryz.sizeOf199
 v164:=Tryz.zeroValue199 }
theorem Tryz.l167:Go.Proofs.Lays.n167 Tryz.prog Tryz.lren:={
 mixed:=by kernel_rfl
 f167:=Tryz.func124.trans (congrArg some (by kernel_rfl))
 f240:=Tryz.func148.trans (congrArg some (by kernel_rfl))
 f276:=Tryz.func174.trans (congrArg some (by kernel_rfl))
 t0:=Tryz.underlying0
 a0:=Tryz.isAgg0
 z0:=Tryz.sizeOf0
 v0:=Tryz.zeroValue0
 t4:=Tryz.underlying4
 a4:=Tryz.isAgg4
 z4:=Tryz.sizeOf4
 v4:=Tryz.zeroValue4
 t5:=Tryz.underlying5
 a5:=Tryz.isAgg5
 z5:=Tryz.sizeOf5
 v5:=Tryz.zeroValue5
 t9:=Tryz.underlying9
 a9:=Tryz.isAgg9
 z9:=Tryz.sizeOf9
 v9:=Tryz.zeroValue9
 t20:=Tryz.underlying20
 a20:=Tryz.isAgg20
 z20:=Tryz.sizeOf20
 v20:=Tryz.zeroValue20
 t37:=Tryz.underlying149
 a37:=Tryz.isAgg149
 z37:=Tryz.sizeOf149
 v37:=Tryz.zeroValue149
 t70:=Tryz.underlying148
 a70:=Tryz.isAgg148
 z70:=Tryz.sizeOf148
 v70:=Tryz.zeroValue148
 t72:=Tryz.underlying151
 a72:=Tryz.isAgg151
 z72:=Tryz.sizeOf151
 v72:=Tryz.zeroValue151
 t75:=Tryz.underlying153
 a75:=Tryz.isAgg153
 z75:=Tryz.sizeOf153
 v75:=Tryz.zeroValue153
 t164:=Tryz.underlying199
 a164:=Tryz.isAgg199
 z164:=Tryz.sizeOf199
 v164:=Tryz.zeroValue199 }
theorem Tryz.l171:Go.Proofs.LaysM.n171 Tryz.prog Tryz.lren:={
 mixed:=by kernel_rfl
 f129:=Tryz.func207.trans (congrArg some (by kernel_rfl))
 f171:=Tryz.func122.trans (congrArg some (by kernel_rfl))
 f243:=Tryz.func143.trans (congrArg some (by kernel_rfl))
 f246:=Tryz.func169.trans (congrArg some (by kernel_rfl))
 f283:=Tryz.func193.trans (congrArg some (by kernel_rfl))
 f284:=Tryz.func194.trans (congrArg some (by kernel_rfl))
 f285:=Tryz.func195.trans (congrArg some (by kernel_rfl))
 f286:=Tryz.func196.trans (congrArg some (by kernel_rfl))
 f317:=Tryz.func206.trans (congrArg some (by kernel_rfl))
 f318:=Tryz.func208.trans (congrArg some (by kernel_rfl))
 f319:=Tryz.func209.trans (congrArg some (by kernel_rfl))
 f320:=Tryz.func210.trans (congrArg some (by kernel_rfl))
 f337:=Tryz.func215.trans (congrArg some (by kernel_rfl))
 f338:=Tryz.func216.trans (congrArg some (by kernel_rfl))
 t0:=Tryz.underlying0
 a0:=Tryz.isAgg0
 z0:=Tryz.sizeOf0
 v0:=Tryz.zeroValue0
 t2:=Tryz.underlying2
 a2:=Tryz.isAgg2
 z2:=Tryz.sizeOf2
 v2:=Tryz.zeroValue2
 t3:=Tryz.underlying3
 a3:=Tryz.isAgg3
 z3:=Tryz.sizeOf3
 v3:=Tryz.zeroValue3
 t4:=Tryz.underlying4
 a4:=Tryz.isAgg4
 z4:=Tryz.sizeOf4
 v4:=Tryz.zeroValue4
 t5:=Tryz.underlying5
 a5:=Tryz.isAgg5
 z5:=Tryz.sizeOf5
 v5:=Tryz.zeroValue5
 t9:=Tryz.underlying9
 a9:=Tryz.isAgg9
 z9:=Tryz.sizeOf9
 v9:=Tryz.zeroValue9
 t20:=Tryz.underlying20
 a20:=Tryz.isAgg20
 z20:=Tryz.sizeOf20
 v20:=Tryz.zeroValue20
 t37:=Tryz.underlying149
 a37:=Tryz.isAgg149
 z37:=Tryz.sizeOf149
 v37:=Tryz.zeroValue149
 t46:=Tryz.underlying132
 a46:=Tryz.isAgg132
 z46:=Tryz.sizeOf132
 v46:=Tryz.zeroValue132
 t51:=Tryz.underlying131
 a51:=Tryz.isAgg131
 z51:=Tryz.sizeOf131
 v51:=Tryz.zeroValue131
 t53:=Tryz.underlying129
 a53:=Tryz.isAgg129
 z53:=Tryz.sizeOf129
 v53:=Tryz.zeroValue129
 t171:=Tryz.underlying215
 a171:=Tryz.isAgg215
 z171:=Tryz.sizeOf215
 v171:=Tryz.zeroValue215
 t173:=Tryz.underlying218
 a173:=Tryz.isAgg218
 z173:=Tryz.sizeOf218
 v173:=Tryz.zeroValue218
 t212:=Tryz.underlying230
 a212:=Tryz.isAgg230
 z212:=Tryz.sizeOf230
 v212:=Tryz.zeroValue230
 t213:=Tryz.underlying231
 a213:=Tryz.isAgg231
 z213:=Tryz.sizeOf231
 t232:=Tryz.underlying243
 a232:=Tryz.isAgg243
 z232:=Tryz.sizeOf243
 v232:=Tryz.zeroValue243
 t233:=Tryz.underlying244
 a233:=Tryz.isAgg244
 z233:=Tryz.sizeOf244
 v233:=Tryz.zeroValue244
 g17:=by kernel_rfl
 g18:=by kernel_rfl
 g19:=by kernel_rfl
 i0:=by kernel_rfl
 i2:=by kernel_rfl
 i3:=by kernel_rfl
 i4:=by kernel_rfl
 i5:=by kernel_rfl
 i9:=by kernel_rfl
 i20:=by kernel_rfl
 i37:=by kernel_rfl
 i46:=by kernel_rfl
 i51:=by kernel_rfl
 i53:=by kernel_rfl
 i171:=by kernel_rfl
 i173:=by kernel_rfl
 i212:=by kernel_rfl
 i232:=by kernel_rfl
 i233:=by kernel_rfl
 m17:=by kernel_rfl
 m18:=by kernel_rfl
 m19:=by kernel_rfl }
theorem Tryz.l160:Go.Proofs.Lays.n160 Tryz.prog Tryz.lren:={
 mixed:=by kernel_rfl
 f119:=Tryz.func212.trans (congrArg some (by kernel_rfl))
 f120:=Tryz.func202.trans (congrArg some (by kernel_rfl))
 f137:=Tryz.func211.trans (congrArg some (by kernel_rfl))
 f151:=Tryz.func186.trans (congrArg some (by kernel_rfl))
 f152:=Tryz.func201.trans (congrArg some (by kernel_rfl))
 f160:=Tryz.func141.trans (congrArg some (by kernel_rfl))
 f197:=Tryz.func185.trans (congrArg some (by kernel_rfl))
 f217:=Tryz.func180.trans (congrArg some (by kernel_rfl))
 f224:=Tryz.func182.trans (congrArg some (by kernel_rfl))
 f225:=Tryz.func181.trans (congrArg some (by kernel_rfl))
 f227:=Tryz.func162.trans (congrArg some (by kernel_rfl))
 f228:=Tryz.func184.trans (congrArg some (by kernel_rfl))
 f231:=Tryz.func160.trans (congrArg some (by kernel_rfl))
 f232:=Tryz.func161.trans (congrArg some (by kernel_rfl))
 f233:=Tryz.func163.trans (congrArg some (by kernel_rfl))
 f234:=Tryz.func164.trans (congrArg some (by kernel_rfl))
 f235:=Tryz.func165.trans (congrArg some (by kernel_rfl))
 f236:=Tryz.func166.trans (congrArg some (by kernel_rfl))
 f260:=Tryz.func200.trans (congrArg some (by kernel_rfl))
 f266:=Tryz.func198.trans (congrArg some (by kernel_rfl))
 f271:=Tryz.func187.trans (congrArg some (by kernel_rfl))
 t0:=Tryz.underlying0
 a0:=Tryz.isAgg0
 z0:=Tryz.sizeOf0
 v0:=Tryz.zeroValue0
 t3:=Tryz.underlying3
 a3:=Tryz.isAgg3
 z3:=Tryz.sizeOf3
 v3:=Tryz.zeroValue3
 t4:=Tryz.underlying4
 a4:=Tryz.isAgg4
 z4:=Tryz.sizeOf4
 v4:=Tryz.zeroValue4
 t5:=Tryz.underlying5
 a5:=Tryz.isAgg5
 z5:=Tryz.sizeOf5
 v5:=Tryz.zeroValue5
 t9:=Tryz.underlying9
 a9:=Tryz.isAgg9
 z9:=Tryz.sizeOf9
 v9:=Tryz.zeroValue9
 t21:=Tryz.underlying21
 a21:=Tryz.isAgg21
 z21:=Tryz.sizeOf21
 v21:=Tryz.zeroValue21
 t46:=Tryz.underlying132
 a46:=Tryz.isAgg132
 z46:=Tryz.sizeOf132
 v46:=Tryz.zeroValue132
 t105:=Tryz.underlying206
 a105:=Tryz.isAgg206
 z105:=Tryz.sizeOf206
 v105:=Tryz.zeroValue206
 t116:=Tryz.underlying188
 a116:=Tryz.isAgg188
 z116:=Tryz.sizeOf188
 t117:=Tryz.underlying189
 a117:=Tryz.isAgg189
 z117:=Tryz.sizeOf189
 v117:=Tryz.zeroValue189
 t119:=Tryz.underlying233
 a119:=Tryz.isAgg233
 z119:=Tryz.sizeOf233
 t124:=Tryz.underlying192
 a124:=Tryz.isAgg192
 z124:=Tryz.sizeOf192
 v124:=Tryz.zeroValue192
 t138:=Tryz.underlying235
 a138:=Tryz.isAgg235
 z138:=Tryz.sizeOf235
 v138:=Tryz.zeroValue235
 t139:=Tryz.underlying236
 a139:=Tryz.isAgg236
 z139:=Tryz.sizeOf236
 v139:=Tryz.zeroValue236
 g3:=by kernel_rfl
 g4:=by kernel_rfl }
theorem Tryz.l172:Go.Proofs.Lays.n172 Tryz.prog Tryz.lren:={
 mixed:=by kernel_rfl
 f129:=Tryz.func207.trans (congrArg some (by kernel_rfl))
 f171:=Tryz.func122.trans (congrArg some (by kernel_rfl))
 f172:=Tryz.func142.trans (congrArg some (by kernel_rfl))
 f205:=Tryz.func205.trans (congrArg some (by kernel_rfl))
 f243:=Tryz.func143.trans (congrArg some (by kernel_rfl))
 f244:=Tryz.func167.trans (congrArg some (by kernel_rfl))
 f245:=Tryz.func168.trans (congrArg some (by kernel_rfl))
 f246:=Tryz.func169.trans (congrArg some (by kernel_rfl))
 f247:=Tryz.func188.trans (congrArg some (by kernel_rfl))
 f279:=Tryz.func189.trans (congrArg some (by kernel_rfl))
 f280:=Tryz.func190.trans (congrArg some (by kernel_rfl))
 f281:=Tryz.func191.trans (congrArg some (by kernel_rfl))
 f282:=Tryz.func192.trans (congrArg some (by kernel_rfl))
 f283:=Tryz.func193.trans (congrArg some (by kernel_rfl))
 f284:=Tryz.func194.trans (congrArg some (by kernel_rfl))
 f285:=Tryz.func195.trans (congrArg some (by kernel_rfl))
 f286:=Tryz.func196.trans (congrArg some (by kernel_rfl))
 f287:=Tryz.func203.trans (congrArg some (by kernel_rfl))
 f316:=Tryz.func204.trans (congrArg some (by kernel_rfl))
 f317:=Tryz.func206.trans (congrArg some (by kernel_rfl))
 f318:=Tryz.func208.trans (congrArg some (by kernel_rfl))
 f319:=Tryz.func209.trans (congrArg some (by kernel_rfl))
 f320:=Tryz.func210.trans (congrArg some (by kernel_rfl))
 f321:=Tryz.func213.trans (congrArg some (by kernel_rfl))
 f322:=Tryz.func214.trans (congrArg some (by kernel_rfl))
 f337:=Tryz.func215.trans (congrArg some (by kernel_rfl))
 f338:=Tryz.func216.trans (congrArg some (by kernel_rfl))
 t0:=Tryz.underlying0
 a0:=Tryz.isAgg0
 z0:=Tryz.sizeOf0
 v0:=Tryz.zeroValue0
 t2:=Tryz.underlying2
 a2:=Tryz.isAgg2
 z2:=Tryz.sizeOf2
 v2:=Tryz.zeroValue2
 t3:=Tryz.underlying3
 a3:=Tryz.isAgg3
 z3:=Tryz.sizeOf3
 v3:=Tryz.zeroValue3
 t4:=Tryz.underlying4
 a4:=Tryz.isAgg4
 z4:=Tryz.sizeOf4
 v4:=Tryz.zeroValue4
 t5:=Tryz.underlying5
 a5:=Tryz.isAgg5
 z5:=Tryz.sizeOf5
 v5:=Tryz.zeroValue5
 t9:=Tryz.underlying9
 a9:=Tryz.isAgg9
 z9:=Tryz.sizeOf9
 v9:=Tryz.zeroValue9
 t20:=Tryz.underlying20
 a20:=Tryz.isAgg20
 z20:=Tryz.sizeOf20
 v20:=Tryz.zeroValue20
 t21:=Tryz.underlying21
 a21:=Tryz.isAgg21
 z21:=Tryz.sizeOf21
 v21:=Tryz.zeroValue21
 t37:=Tryz.underlying149
 a37:=Tryz.isAgg149
 z37:=Tryz.sizeOf149
 v37:=Tryz.zeroValue149
 t46:=Tryz.underlying132
 a46:=Tryz.isAgg132
 z46:=Tryz.sizeOf132
 v46:=Tryz.zeroValue132
 t51:=Tryz.underlying131
 a51:=Tryz.isAgg131
 z51:=Tryz.sizeOf131
 v51:=Tryz.zeroValue131
 t53:=Tryz.underlying129
 a53:=Tryz.isAgg129
 z53:=Tryz.sizeOf129
 v53:=Tryz.zeroValue129
 t75:=Tryz.underlying153
 a75:=Tryz.isAgg153
 z75:=Tryz.sizeOf153
 v75:=Tryz.zeroValue153
 t76:=Tryz.underlying155
 a76:=Tryz.isAgg155
 z76:=Tryz.sizeOf155
 v76:=Tryz.zeroValue155
 t85:=Tryz.underlying210
 a85:=Tryz.isAgg210
 z85:=Tryz.sizeOf210
 v85:=Tryz.zeroValue210
 t127:=Tryz.underlying174
 a127:=Tryz.isAgg174
 z127:=Tryz.sizeOf174
 v127:=Tryz.zeroValue174
 t143:=Tryz.underlying240
 a143:=Tryz.isAgg240
 z143:=Tryz.sizeOf240
 v143:=Tryz.zeroValue240
 t145:=Tryz.underlying242
 a145:=Tryz.isAgg242
 z145:=Tryz.sizeOf242
 v145:=Tryz.zeroValue242
 t167:=Tryz.underlying209
 a167:=Tryz.isAgg209
 z167:=Tryz.sizeOf209
 v167:=Tryz.zeroValue209
 t168:=Tryz.underlying212
 a168:=Tryz.isAgg212
 z168:=Tryz.sizeOf212
 v168:=Tryz.zeroValue212
 t171:=Tryz.underlying215
 a171:=Tryz.isAgg215
 z171:=Tryz.sizeOf215
 v171:=Tryz.zeroValue215
 t173:=Tryz.underlying218
 a173:=Tryz.isAgg218
 z173:=Tryz.sizeOf218
 v173:=Tryz.zeroValue218
 t175:=Tryz.underlying223
 a175:=Tryz.isAgg223
 z175:=Tryz.sizeOf223
 v175:=Tryz.zeroValue223
 t210:=Tryz.underlying227
 a210:=Tryz.isAgg227
 z210:=Tryz.sizeOf227
 v210:=Tryz.zeroValue227
 t212:=Tryz.underlying230
 a212:=Tryz.isAgg230
 z212:=Tryz.sizeOf230
 v212:=Tryz.zeroValue230
 t213:=Tryz.underlying231
 a213:=Tryz.isAgg231
 z213:=Tryz.sizeOf231
 t232:=Tryz.underlying243
 a232:=Tryz.isAgg243
 z232:=Tryz.sizeOf243
 v232:=Tryz.zeroValue243
 t233:=Tryz.underlying244
 a233:=Tryz.isAgg244
 z233:=Tryz.sizeOf244
 v233:=Tryz.zeroValue244
 g15:=by kernel_rfl
 g16:=by kernel_rfl
 g17:=by kernel_rfl
 g18:=by kernel_rfl
 g19:=by kernel_rfl }
theorem Tryz.l219:Go.Proofs.Lays.n219 Tryz.prog Tryz.lren:={
 mixed:=by kernel_rfl
 f217:=Tryz.func180.trans (congrArg some (by kernel_rfl))
 f219:=Tryz.func158.trans (congrArg some (by kernel_rfl))
 f224:=Tryz.func182.trans (congrArg some (by kernel_rfl))
 f225:=Tryz.func181.trans (congrArg some (by kernel_rfl))
 f266:=Tryz.func198.trans (congrArg some (by kernel_rfl))
 f267:=Tryz.func183.trans (congrArg some (by kernel_rfl))
 f314:=Tryz.func199.trans (congrArg some (by kernel_rfl))
 t3:=Tryz.underlying3
 a3:=Tryz.isAgg3
 z3:=Tryz.sizeOf3
 v3:=Tryz.zeroValue3
 t4:=Tryz.underlying4
 a4:=Tryz.isAgg4
 z4:=Tryz.sizeOf4
 v4:=Tryz.zeroValue4
 t5:=Tryz.underlying5
 a5:=Tryz.isAgg5
 z5:=Tryz.sizeOf5
 v5:=Tryz.zeroValue5
 t9:=Tryz.underlying9
 a9:=Tryz.isAgg9
 z9:=Tryz.sizeOf9
 v9:=Tryz.zeroValue9
 t46:=Tryz.underlying132
 a46:=Tryz.isAgg132
 z46:=Tryz.sizeOf132
 v46:=Tryz.zeroValue132
 t51:=Tryz.underlying131
 a51:=Tryz.isAgg131
 z51:=Tryz.sizeOf131
 v51:=Tryz.zeroValue131
 t146:=Tryz.underlying195
 a146:=Tryz.isAgg195
 z146:=Tryz.sizeOf195
 v146:=Tryz.zeroValue195
 g1:=by kernel_rfl }
theorem Tryz.lX:Builder.Extra Tryz.prog Tryz.lren:={
 sizeBuilder:=by kernel_rfl
 liesBuilder:=by kernel_rfl
 t5:=Tryz.underlying5
 a5:=Tryz.isAgg5
 z5:=Tryz.sizeOf5
 v5:=Tryz.zeroValue5
 infoByte:=by kernel_rfl
 cellsByte:=by kernel_rfl
 sizeByte:=by kernel_rfl
 neB5:=by decide }
end Go.Proofs
namespace Go.Eng
inductive AV where
 | b (v:Bool)
 | i (k:IntKind) (n:Int)
 | s (l:List UInt8)
 | p (n off:Nat)
 | pn
 | sl (n off len cap z:Nat)
 | se
 | e0
 | sn
 | fn (f:Nat) (l:List AV)
 | fnil
 | inil
 | ia (t:Nat) (v:AV)
 | ag (l:List AV)
 | tu (l:List AV)
def AV.scal:AV→Bool
 | .ag _ | .tu _=>false
 | _=>true
def AV.cells:AV→List AV
 | .ag l=>l
 | v=>[v]
structure Blk where
 v:List AV
 rw:Bool
 ver:Nat
structure Hp where
 m:Nat→Option Blk
 next:Nat
structure At where
 b:Nat
 o:Nat
 n:Nat
 w:Bool
abbrev Loc:=Nat→Option At
def Loc.le (l l':Loc):Prop:=∀n a,l n=some a→l' n=some a
theorem Loc.le_refl (l:Loc):l.le l:=fun _ _ h=>h
theorem Loc.le_trans {a b c:Loc} (h:a.le b) (k:b.le c):a.le c:=fun n x hx=>k n x (h n x hx)
inductive Rel (key:Nat→Option FuncId) (l:Loc):AV→Value→Prop where
 | b (v:Bool):Rel key l (.b v) (.bool v)
 | i (k:IntKind) (n:Int):Rel key l (.i k n) (.int k n)
 | s (s:ByteArray):Rel key l (.s s.data.toList) (.string s)
 | p {n off:Nat} {a:At} (h:l n=some a):Rel key l (.p n off) (.pointer (some ⟨a.b,a.o+off,none⟩))
 | pn:Rel key l .pn (.pointer none)
 | sl {n off len cap cap' z:Nat} {a:At} (h:l n=some a) (h1:cap≤cap') (h2:off+cap'*z≤a.n) (h3:len≤cap) :
   Rel key l (.sl n off len cap z) (.slice (some ⟨a.b,a.o+off,none⟩) len cap')
 | se (a:Addr):Rel key l .se (.slice (some a) 0 0)
 | e0 (a:Addr) (c:Nat):Rel key l .e0 (.slice (some a) 0 c)
 | sn:Rel key l .sn (.slice none 0 0)
 | fn {f:Nat} {g:FuncId} {vs:List AV} {ws:Array Value} (h:key f=some g) (hn:vs.length=ws.size)
   (hv:∀i (h:i<vs.length) (h':i<ws.size),Rel key l vs[i] ws[i]):Rel key l (.fn f vs) (.func (.func g) #[] ws)
 | fnil:Rel key l .fnil .nilFunc
 | inil:Rel key l .inil .nilIface
 | ia {t:Nat} {v:AV} {w:Value} (h:Rel key l v w):Rel key l (.ia t v) (.iface t w)
 | ag {vs:List AV} {ws:Array Value} (hn:vs.length=ws.size)
   (hv:∀i (h:i<vs.length) (h':i<ws.size),Rel key l vs[i] ws[i]):Rel key l (.ag vs) (.agg ws)
 | tu {vs:List AV} {ws:Array Value} (hn:vs.length=ws.size)
   (hv:∀i (h:i<vs.length) (h':i<ws.size),Rel key l vs[i] ws[i]):Rel key l (.tu vs) (.tuple ws)
theorem Rel.mono {key:Nat→Option FuncId} {l l':Loc} (hl:l.le l') {v:AV} {w:Value} (h:Rel key l v w):Rel key l' v w:=by
 induction h with
 | b v=>exact .b v
 | i k n=>exact .i k n
 | s s=>exact .s s
 | p h=>exact .p (hl _ _ h)
 | pn=>exact .pn
 | sl h h1 h2 h3=>exact .sl (hl _ _ h) h1 h2 h3
 | se a=>exact .se a
 | e0 a c=>exact .e0 a c
 | sn=>exact .sn
 | fn h hn _ ih=>exact .fn h hn ih
 | fnil=>exact .fnil
 | inil=>exact .inil
 | ia _ ih=>exact .ia ih
 | ag hn _ ih=>exact .ag hn ih
 | tu hn _ ih=>exact .tu hn ih
def RelL (key:Nat→Option FuncId) (l:Loc) (vs:List AV) (ws:List Value):Prop :=
 vs.length=ws.length∧∀i (h:i<vs.length) (h':i<ws.length),Rel key l vs[i] ws[i]
theorem RelL.nil {key:Nat→Option FuncId} {l:Loc}:RelL key l [] []:=⟨rfl,fun i h=>by simp at h⟩
theorem RelL.cons {key:Nat→Option FuncId} {l:Loc} {v:AV} {w:Value} {vs:List AV} {ws:List Value} (h:Rel key l v w) (hs:RelL key l vs ws) :
  RelL key l (v::vs) (w::ws):=by
 refine⟨by simp[hs.1],fun i hi hi'=>?_⟩
 cases i with
 | zero=>exact h
 | succ i=>exact hs.2 i (by simpa using hi) (by simpa using hi')
theorem RelL.mono {key:Nat→Option FuncId} {l l':Loc} (hl:l.le l') {vs:List AV} {ws:List Value} (h:RelL key l vs ws):RelL key l' vs ws :=
 ⟨h.1,fun i a b=>(h.2 i a b).mono hl⟩
structure Holds (key:Nat→Option FuncId) (l:Loc) (blk:Blk) (a:At) (w:World):Prop where
 lt:a.b<w.heap.size
 len:blk.v.length≤a.n
 cell:∀i (h:i<blk.v.length),∃v,w.cell? ⟨a.b,a.o+i,none⟩=some v∧Rel key l blk.v[i] v
 scal:∀i (h:i<blk.v.length),blk.v[i].scal=true
 room:blk.rw=true→∀i,i<a.n→(∃v,w.cell? ⟨a.b,a.o+i,none⟩=some v)∧w.frozen? ⟨a.b,a.o+i,none⟩=false
 whole:a.w=true→blk.rw=false∧a.o=0∧∃cs t fz,w.heap[a.b]?=some (.cells cs t fz)∧cs.size=blk.v.length
structure Sim (key:Nat→Option FuncId) (F:Nat) (l:Loc) (h:Hp) (w:World):Prop where
 holds:∀n blk a,h.m n=some blk→l n=some a→Holds key l blk a w
 apart:∀n blk a n' blk' a',h.m n=some blk→l n=some a→blk.rw=true→h.m n'=some blk'→l n'=some a'→a.b=a'.b→n=n'
 lt:∀n a,l n=some a→a.b<w.heap.size
 dom:∀n a,l n=some a→n<h.next∨F≤n
 wf:∀n,h.next≤n→h.m n=none
end Go.Eng
namespace Go.Eng
inductive X where
 | t (n:Nat)
 | k (v:AV)
inductive XO where
 | mov (x:X)
 | pick (c a b:X)
 | new (z:List AV)
 | box (x:X)
 | build (z:List AV) (ps:List (Nat×Nat×X))
 | bsl (n sz:Nat) (z:List AV) (ps:List (Nat×Nat×X))
 | load (agg:Bool) (n:Nat) (x:X)
 | store (n:Nat) (a x:X)
 | nilck (x:X)
 | bin (op:BinOp) (x y:X)
 | eqt (ne:Bool) (c:Nat) (x y:X)
 | eqa (ne:Bool) (ks:List Nat) (x y:X)
 | un (op:UnOp) (x:X)
 | cint (k:IntKind) (x:X)
 | cstr (x:X)
 | b2s (x:X)
 | s2b (x:X)
 | mif (t:Nat) (x:X)
 | mfn (f:Nat) (l:List X)
 | msl (z:List AV) (bytes:Nat) (n c:X)
 | slstr (x:X) (lo hi:Option X)
 | slsl (sz:Nat) (x:X) (lo hi mx:Option X)
 | slarr (n sz:Nat) (x:X) (lo hi:Option X)
 | fad (off:Nat) (x:X)
 | fld (agg:Bool) (off n:Nat) (x:X)
 | ixa (len sz:Nat) (x i:X)
 | ixs (sz:Nat) (x i:X)
 | iag (len:Nat) (agg:Bool) (sz:Nat) (x i:X)
 | istr (x i:X)
 | ext (x:X) (n:Nat)
 | call (f:Nat) (l:List X)
 | callv (x:X) (l:List X)
 | len (x:X)
 | lens (x:X)
 | lenc (n:Nat)
 | app (sz bytes:Nat) (s x:X)
 | cpy (sz:Nat) (d s:X)
 | mm (mx:Bool) (x:X) (l:List X)
 | fail
structure XOper where
 dst:Option Nat
 op:XO
 after:List Nat
 guard:Option (Nat×Bool)
inductive XC where
 | skip
 | reg (ops:List XOper)
 | drw (ops:List XOper) (chk:List (Nat×Nat))
 | seq (a b:XC)
 | cond (c:X) (a b:XC)
 | block (id:Nat) (a:XC)
 | loop (a:XC)
 | exit (id:Nat)
 | scope (a:XC)
 | ret
 | fail
inductive XR where
 | tmp (t:Nat)
 | cell (t:Nat) (agg:Bool) (n:Nat)
structure XF where
 n:Nat
 body:XC
 res:List XR
abbrev Fr:=List AV
def undefA:AV:=.tu []
def X.ev (fr:Fr):X→AV
 | .t n=>fr.getD n undefA
 | .k v=>v
def Fr.put (fr:Fr) (d:Option Nat) (v:AV):Fr :=
 match d with
 | some d=>fr.set d v
 | none=>fr
def splice (l:List AV) (off:Nat) (cs:List AV):List AV:=l.take off++cs++l.drop (off+cs.length)
def Hp.push (h:Hp) (l:List AV):Hp:=⟨fun n=>if n=h.next then some ⟨l,true,0⟩ else h.m n,h.next+1⟩
def Hp.upd (h:Hp) (n:Nat) (b:Blk):Hp:=⟨fun k=>if k=n then some b else h.m k,h.next⟩
def Hp.kill (h:Hp) (n:Nat):Hp:=⟨fun k=>if k=n then none else h.m k,h.next⟩
def Hp.rd (h:Hp) (n off k:Nat):Option (List AV) :=
 match h.m n with
 | some b=>if off+k≤b.v.length then some ((b.v.drop off).take k) else none
 | none=>none
def asI:AV→Option Int
 | .i _ n=>some n
 | _=>none
def asN (v:AV):Option Nat :=
 match asI v with
 | some n=>if 0≤n then some n.toNat else none
 | none=>none
def optN (d:Nat):Option AV→Option Nat
 | some v=>asN v
 | none=>some d
def fillA (fr:Fr):List AV→List (Nat×Nat×X)→Option (List AV)
 | z,[]=>some z
 | z,(off,size,x)::ps =>
  let cs:=(x.ev fr).cells
  if cs.length=size∧off+size≤z.length∧cs.all AV.scal then fillA fr (splice z off cs) ps else none
def intBin (op:BinOp) (k:IntKind) (x y:Int):Option AV :=
 match op with
 | .add=>some (.i k (k.wrap (x+y)))
 | .sub=>some (.i k (k.wrap (x-y)))
 | .mul=>some (.i k (k.wrap (x*y)))
 | .quo=>if y=0 then none else some (.i k (k.wrap (x.tdiv y)))
 | .rem=>if y=0 then none else some (.i k (x.tmod y))
 | .and=>some (.i k (k.wrap (BitVec.ofInt k.bits x &&& BitVec.ofInt k.bits y).toNat))
 | .or=>some (.i k (k.wrap (BitVec.ofInt k.bits x ||| BitVec.ofInt k.bits y).toNat))
 | .xor=>some (.i k (k.wrap (BitVec.ofInt k.bits x ^^^ BitVec.ofInt k.bits y).toNat))
 | .andNot=>some (.i k (k.wrap (BitVec.ofInt k.bits x &&& ~~~ BitVec.ofInt k.bits y).toNat))
 | .eql=>some (.b (x==y))
 | .neq=>some (.b (x != y))
 | .lss=>some (.b (x<y))
 | .leq=>some (.b (x≤y))
 | .gtr=>some (.b (x>y))
 | .geq=>some (.b (x≥y))
 | _=>none
def intShift (op:BinOp) (k:IntKind) (x y:Int):Option AV :=
 if y<0 then none else
 match op with
 | .shl=>some (.i k (k.wrap (x*2^(min y.toNat k.bits))))
 | .shr=>some (.i k (x.fdiv (2^(min y.toNat k.bits))))
 | _=>none
def strBin (op:BinOp) (x y:List UInt8):Option AV :=
 match op with
 | .add=>if x.length+y.length≤9223372036854775807 then some (.s (x++y)) else none
 | .eql=>some (.b (x==y))
 | .neq=>some (.b (!(x==y)))
 | .lss=>some (.b (Op.bytesLess x y))
 | .leq=>some (.b (Op.bytesLess x y || x==y))
 | .gtr=>some (.b (!(Op.bytesLess x y || x==y)))
 | .geq=>some (.b (!(Op.bytesLess x y)))
 | _=>none
def numBin (op:BinOp) (k k':IntKind) (x y:Int):Option AV :=
 match op with
 | .shl | .shr=>intShift op k x y
 | _=>if k=k' then intBin op k x y else none
def binA (op:BinOp) (x y:AV):Option AV :=
 match x,y with
 | .i k a,.i k' b=>numBin op k k' a b
 | .s a,.s b=>strBin op a b
 | _,_=>none
def one?:List AV→Option AV
 | [v]=>some v
 | _=>none
def pickA (g:Bool) (l:List AV):Option AV:=if g then some (.ag l) else one? l
def eqTA (c:Nat) (x y:AV):Option Bool :=
 match c,x,y with
 | 0,.b a,.b b=>some (a==b)
 | 1,.pn,.pn=>some true
 | 1,.p _ _,.pn=>some false
 | 1,.pn,.p _ _=>some false
 | 1,.p n o,.p n' o'=>if n=n' then some (o==o') else none
 | 2,.inil,.inil=>some true
 | 2,.ia _ _,.inil=>some false
 | 2,.inil,.ia _ _=>some false
 | 3,.sn,_=>some true
 | 3,.sl _ _ _ _ _,_=>some false
 | 3,.se,_=>some false
 | 3,.e0,_=>some false
 | _,_,_=>none
def eqCell (k:Nat) (x y:AV):Option Bool :=
 match k,x,y with
 | 0,.b a,.b b=>some (a==b)
 | 1,.i k a,.i k' b=>if k=k' then some (a==b) else none
 | 2,.s a,.s b=>some (a==b)
 | _,_,_=>none
def eqCells:List Nat→List AV→List AV→Option Bool
 | [],[],[]=>some true
 | k::ks,x::xs,y::ys =>
  match eqCell k x y,eqCells ks xs ys with
  | some a,some b=>some (a&&b)
  | _,_=>none
 | _,_,_=>none
def unA (op:UnOp) (x:AV):Option AV :=
 match op,x with
 | .neg,.i k n=>some (.i k (k.wrap (0-n)))
 | .xor,.i k n=>some (.i k (k.wrap (BitVec.ofInt k.bits (if k.signed then-1 else k.max) ^^^ BitVec.ofInt k.bits n).toNat))
 | .not,.b v=>some (.b (!v))
 | _,_=>none
def bytesOf:List AV→Option (List UInt8)
 | []=>some []
 | .i .u8 n::l=>(bytesOf l).map fun r=>UInt8.ofNat n.toNat::r
 | _=>none
def u8s (l:List UInt8):List AV:=l.map fun c=>.i .u8 c.toNat
def srcA (h:Hp) (z:Nat):AV→Option (Nat×List AV)
 | .sl n off len _ z'=>if len=0 then some (0,[]) else if z'=z then (h.rd n off (len*z)).map fun l=>(len,l) else none
 | .sn | .se | .e0=>some (0,[])
 | .s l=>if z=1 then some (l.length,u8s l) else none
 | _=>none
def appA (h:Hp) (z bytes:Nat) (s x:AV):Option (AV×Hp) :=
 match srcA h z x with
 | none=>none
 | some (n,cs) =>
  match s with
  | .sn | .se =>
   if n=0 then some (s,h)
   else if n*bytes≤140737488355328 then some (.sl h.next 0 n n z,h.push cs) else none
  | .sl m off len _ z' =>
   if z'≠z then none else
   if n=0 then some (s,h) else
   match h.m m with
   | some b =>
    if b.rw=true∧off+len*z≤b.v.length∧(len+n)*bytes≤140737488355328 then
     some (.sl h.next 0 (len+n) (len+n) z,(h.kill m).push ((b.v.drop off).take (len*z)++cs))
    else none
   | none=>none
  | _=>none
def cpyA (h:Hp) (z:Nat) (d s:AV):Option (AV×Hp) :=
 match srcA h z s with
 | none=>none
 | some (n,cs) =>
  match d with
  | .sn | .se | .e0=>some (.i .i64 0,h)
  | .sl m off len _ z' =>
   if z'≠z then none else
   match h.m m with
   | some b =>
    if b.rw=true∧off+min n len*z≤b.v.length then
     some (.i .i64 (min n len:Nat),h.upd m { b with v:=splice b.v off (cs.take (min n len*z)),ver:=b.ver+1 })
    else none
   | none=>none
  | _=>none
def slA (z:Nat) (x:AV) (lo hi mx:Option AV):Option AV :=
 match x with
 | .sl n off len cap z' =>
  if z'≠z then (if len=0∧optN 0 lo=some 0∧optN 0 hi=some 0∧mx.isNone=true then some (.sl n off len cap z') else none) else
  match optN cap mx,optN len hi,optN 0 lo with
  | some m,some h,some l =>
   if l≤h∧h≤m∧m≤cap∧(mx.isSome=true→hi.isSome=true) then
    if m=l then (if mx.isSome then some .se else some .e0)
    else some (.sl n (off+l*z) (h-l) (m-l) z)
   else none
  | _,_,_=>none
 | .sn | .se | .e0 =>
  match optN 0 mx,optN 0 hi,optN 0 lo with
  | some 0,some 0,some 0=>if mx.isSome then (if hi.isSome then (match x with | .sn=>some .sn|_=>some .se) else none) else some x
  | _,_,_=>none
 | _=>none
def slStr (l:List UInt8) (lo hi:Option AV):Option AV :=
 match optN l.length hi,optN 0 lo with
 | some h,some a=>if a≤h∧h≤l.length then some (.s ((l.take h).drop a)) else none
 | _,_=>none
def mmA (mx:Bool) (x:AV):List AV→Option AV
 | []=>some x
 | y::l =>
  match x,y with
  | .i k a,.i k' b=>if k=k' then mmA mx (.i k (if mx then (if b>a then b else a) else (if b<a then b else a))) l else none
  | _,_=>none
def XO.ev (call:Nat→List AV→Hp→Option (AV×Hp)) (fr:Fr) (h:Hp):XO→Option (AV×Hp)
 | .mov x=>some (x.ev fr,h)
 | .pick c a b =>
  match c.ev fr with
  | .b v=>some (if v then a.ev fr else b.ev fr,h)
  | _=>none
 | .new z=>if z.all AV.scal then some (.p h.next 0,h.push z) else none
 | .box x =>
  let cs:=(x.ev fr).cells
  if cs.all AV.scal then some (.p h.next 0,h.push cs) else none
 | .build z ps=>(fillA fr z ps).map fun l=>(.ag l,h)
 | .bsl n sz z ps =>
  if n*sz≤16777216∧z.length=sz∧z.all AV.scal then
   match fillA fr (List.replicate n z).flatten ps with
   | some l=>if n=0 then some (.se,h) else some (.sl h.next 0 n n sz,h.push l)
   | none=>none
  else none
 | .load agg n x =>
  match x.ev fr with
  | .p m off =>
   match h.rd m off n with
   | some l=>(pickA agg l).map fun v=>(v,h)
   | none=>none
  | _=>none
 | .store n a x =>
  match a.ev fr with
  | .p m off =>
   match h.m m with
   | some b =>
    let cs:=(x.ev fr).cells
    if b.rw=true∧cs.length=n∧off+n≤b.v.length∧cs.all AV.scal then
     some (undefA,h.upd m { b with v:=splice b.v off cs,ver:=b.ver+1 })
    else none
   | none=>none
  | _=>none
 | .nilck x =>
  match x.ev fr with
  | .p m off=>some (.p m off,h)
  | .fn f l=>some (.fn f l,h)
  | _=>none
 | .bin op x y=>(binA op (x.ev fr) (y.ev fr)).map fun v=>(v,h)
 | .eqt ne c x y=>(eqTA c (x.ev fr) (y.ev fr)).map fun v=>(.b (if ne then !v else v),h)
 | .eqa ne ks x y =>
  match x.ev fr,y.ev fr with
  | .ag xs,.ag ys =>
   (eqCells ks xs ys).map fun v=>(.b (if ne then !v else v),h)
  | _,_=>none
 | .un op x=>(unA op (x.ev fr)).map fun v=>(v,h)
 | .cint k x =>
  match x.ev fr with
  | .i _ n=>some (.i k (k.wrap n),h)
  | _=>none
 | .cstr x =>
  match x.ev fr with
  | .s l=>some (.s l,h)
  | _=>none
 | .b2s x =>
  match x.ev fr with
  | .sn | .se | .e0=>some (.s [],h)
  | .sl n off ln _ z =>
   if ln=0 then some (.s [],h) else
   if z=1 then (match (h.rd n off ln).bind bytesOf with|some l=>some (.s l,h)|none=>none) else none
  | _=>none
 | .s2b x =>
  match x.ev fr with
  | .s l=>some (if l=[] then .e0 else .sl h.next 0 l.length l.length 1,if l=[] then h else h.push (u8s l))
  | _=>none
 | .mif t x=>if (x.ev fr).scal then some (.ia t (x.ev fr),h) else none
 | .mfn f l=>some (.fn f (l.map (X.ev fr)),h)
 | .msl z bytes n c =>
  match asN (n.ev fr),asN (c.ev fr) with
  | some a,some b =>
   if a≤b∧b*bytes≤281474976710656∧b≤9223372036854775807∧z.all AV.scal then
    (if b=0 then some (.se,h) else some (.sl h.next 0 a b z.length,h.push (List.replicate b z).flatten))
   else none
  | _,_=>none
 | .slstr x lo hi =>
  match x.ev fr with
  | .s l=>(slStr l (lo.map (X.ev fr)) (hi.map (X.ev fr))).map fun v=>(v,h)
  | _=>none
 | .slsl z x lo hi mx=>(slA z (x.ev fr) (lo.map (X.ev fr)) (hi.map (X.ev fr)) (mx.map (X.ev fr))).map fun v=>(v,h)
 | .slarr n z x lo hi =>
  match x.ev fr with
  | .p m off =>
   match h.m m with
   | some b=>if off+n*z≤b.v.length then (slA z (.sl m off n n z) (lo.map (X.ev fr)) (hi.map (X.ev fr)) none).map fun v=>(v,h) else none
   | none=>none
  | _=>none
 | .fad off x =>
  match x.ev fr with
  | .p m o=>some (.p m (o+off),h)
  | _=>none
 | .fld agg off n x =>
  match x.ev fr with
  | .ag l =>
   if off+n≤l.length then (pickA agg ((l.drop off).take n)).map fun v=>(v,h) else none
  | _=>none
 | .ixa ln sz x i =>
  match x.ev fr,asN (i.ev fr) with
  | .p m off,some j=>if j<ln then some (.p m (off+j*sz),h) else none
  | _,_=>none
 | .ixs sz x i =>
  match x.ev fr,asN (i.ev fr) with
  | .sl m off ln _ z,some j=>if j<ln∧z=sz then some (.p m (off+j*sz),h) else none
  | _,_=>none
 | .iag ln agg sz x i =>
  match x.ev fr,asN (i.ev fr) with
  | .ag l,some j =>
   if j<ln∧l.length=ln*sz then
    (pickA agg ((l.drop (j*sz)).take sz)).map fun v=>(v,h)
   else none
  | _,_=>none
 | .istr x i =>
  match x.ev fr,asN (i.ev fr) with
  | .s l,some j=>(l[j]?).map fun c=>(.i .u8 c.toNat,h)
  | _,_=>none
 | .ext x n =>
  match x.ev fr with
  | .tu l=>(l[n]?).map fun v=>(v,h)
  | _=>none
 | .call f l=>call f (l.map (X.ev fr)) h
 | .callv x l =>
  match x.ev fr with
  | .fn f c=>call f (l.map (X.ev fr)++c) h
  | _=>none
 | .lens x =>
  match x.ev fr with
  | .s l=>some (.i .i64 l.length,h)
  | _=>none
 | .len x =>
  match x.ev fr with
  | .sl _ _ ln _ _=>some (.i .i64 ln,h)
  | .sn | .se | .e0=>some (.i .i64 0,h)
  | _=>none
 | .lenc n=>some (.i .i64 n,h)
 | .app z bytes s x=>appA h z bytes (s.ev fr) (x.ev fr)
 | .cpy z d s=>cpyA h z (d.ev fr) (s.ev fr)
 | .mm mx x l=>(mmA mx (x.ev fr) (l.map (X.ev fr))).map fun v=>(v,h)
 | .fail=>none
def XOper.wanted (o:XOper) (fr:Fr):Bool :=
 match o.guard with
 | none=>true
 | some (s,b) =>
  match fr[s]? with
  | some (.b c)=>c==b
  | _=>false
inductive Out where
 | normal
 | exit (id:Nat)
 | ret
def evOps (call:Nat→List AV→Hp→Option (AV×Hp)):List XOper→Fr→Hp→Option (Fr×Hp)
 | [],fr,h=>some (fr,h)
 | o::l,fr,h =>
  if o.wanted fr then
   match o.op.ev call fr h with
   | some (v,h')=>evOps call l (fr.put o.dst v) h'
   | none=>none
  else evOps call l (fr.put o.dst undefA) h
def evOpsT (call:Nat→List AV→Hp→Option (AV×Hp)):List XOper→Fr→Hp→Option (Fr×List Hp)
 | [],fr,h=>some (fr,[h])
 | o::l,fr,h =>
  if o.wanted fr then
   match o.op.ev call fr h with
   | some (v,h')=>(evOpsT call l (fr.put o.dst v) h').map fun r=>(r.1,h::r.2)
   | none=>none
  else (evOpsT call l (fr.put o.dst undefA) h).map fun r=>(r.1,h::r.2)
def XO.looks:XO→X
 | .load _ _ x=>x
 | .b2s x=>x
 | .slarr _ _ x _ _=>x
 | _=>.k undefA
def XO.cls:XO→Nat
 | .new _ | .box _ | .bsl _ _ _ _ | .msl _ _ _ _ | .s2b _=>1
 | .load _ _ _ | .b2s _ | .slarr _ _ _ _ _=>2
 | .call _ _ | .callv _ _ | .app _ _ _ _ | .cpy _ _ _ | .store _ _ _=>3
 | _=>0
def AV.name?:AV→Option Nat
 | .p n _=>some n
 | .sl n _ ln _ _=>if ln=0 then none else some n
 | _=>none
def XO.nameAt (o:XO) (fr:Fr) (next:Nat):Option Nat:=if o.cls=1 then some next else (o.looks.ev fr).name?
def verEq (n:Option Nat) (h h':Hp):Bool :=
 match n with
 | some n=>decide (h.next≤n) || (h.m n).map Blk.ver==(h'.m n).map Blk.ver
 | none=>true
def chkOne (ops:List XOper) (fr:Fr) (hs:List Hp) (c:Nat×Nat):Bool :=
 match ops[c.1]?,hs[c.1]?,hs[c.2]?,hs[c.2+1]? with
 | some o,some g,some h,some h'=>verEq (o.op.nameAt fr g.next) h h'
 | _,_,_,_=>false
def evDrw (call:Nat→List AV→Hp→Option (AV×Hp)) (ops:List XOper) (chk:List (Nat×Nat)) (fr:Fr) (h:Hp):Option (Fr×Hp) :=
 if chk=[] then evOps call ops fr h else
 match evOpsT call ops fr h with
 | some (fr',hs)=>if chk.all (chkOne ops fr' hs) then (hs.getLast?).map fun h'=>(fr',h') else none
 | none=>none
abbrev Step:=Fr→Hp→Option (Out×Fr×Hp)
def evLoop (body:Step):Nat→Step
 | 0,_,_=>none
 | k+1,fr,h =>
  match body fr h with
  | some (.normal,fr',h')=>evLoop body k fr' h'
  | r=>r
def evCode (call:Nat→List AV→Hp→Option (AV×Hp)) (lf:Nat):XC→Step
 | .skip=>fun fr h=>some (.normal,fr,h)
 | .reg ops=>fun fr h=>(evOps call ops fr h).map fun r=>(.normal,r.1,r.2)
 | .drw ops chk=>fun fr h=>(evDrw call ops chk fr h).map fun r=>(.normal,r.1,r.2)
 | .seq a b=>fun fr h =>
  match evCode call lf a fr h with
  | some (.normal,fr',h')=>evCode call lf b fr' h'
  | r=>r
 | .cond c a b=>fun fr h =>
  match c.ev fr with
  | .b v=>if v then evCode call lf a fr h else evCode call lf b fr h
  | _=>none
 | .block id a=>fun fr h =>
  match evCode call lf a fr h with
  | some (.exit i,fr',h')=>if i=id then some (.normal,fr',h') else some (.exit i,fr',h')
  | r=>r
 | .loop a=>evLoop (evCode call lf a) lf
 | .exit id=>fun fr h=>some (.exit id,fr,h)
 | .scope a=>evCode call lf a
 | .ret=>fun fr h=>some (.ret,fr,h)
 | .fail=>fun _ _=>none
def resOne (fr:Fr) (h:Hp):XR→Option AV
 | .tmp t=>some (fr.getD t undefA)
 | .cell t agg n =>
  match fr.getD t undefA with
  | .p m off =>
   match h.rd m off n with
   | some l=>pickA agg l
   | none=>none
  | _=>none
def resA (fr:Fr) (h:Hp):List XR→Option (List AV)
 | []=>some []
 | r::l =>
  match resOne fr h r,resA fr h l with
  | some v,some vs=>some (v::vs)
  | _,_=>none
def packA:List AV→AV
 | [v]=>v
 | l=>.tu l
inductive XD where
 | fn (f:XF)
 | orc (o:List AV→Hp→Option (AV×Hp))
def evF (prog:Nat→Option XD):Nat→Nat→List AV→Hp→Option (AV×Hp)
 | 0,_,_,_=>none
 | k+1,f,args,h =>
  match prog f with
  | some (.fn xf) =>
   match evCode (evF prog k) k xf.body (args++List.replicate (xf.n-args.length) undefA) h with
   | some (.exit _,_,_)=>none
   | some (_,fr,h')=>(resA fr h' xf.res).map fun vs=>(packA vs,h')
   | none=>none
  | some (.orc o)=>o args h
  | none=>none
end Go.Eng
namespace Go.Eng
def ofCell:Value→Option AV
 | .bool v=>some (.b v)
 | .int k n=>some (.i k n)
 | .string s=>some (.s s.data.toList)
 | .pointer none=>some .pn
 | .slice none 0 0=>some .sn
 | .nilFunc=>some .fnil
 | .nilIface=>some .inil
 | _=>none
def ofCells:List Value→Option (List AV)
 | []=>some []
 | v::l =>
  match ofCell v,ofCells l with
  | some a,some asq=>some (a::asq)
  | _,_=>none
def ofVal:Value→Option AV
 | .agg cs=>(ofCells cs.toList).map .ag
 | v=>ofCell v
structure Tab where
 fkey:FuncId→Option Nat
 gkey:Nat→Option Nat
section
variable (P:Program) (T:Tab)
def cX:Operand→Option X
 | .tmp t=>some (.t t)
 | .const v=>(ofVal v).map .k
 | .global g=>(T.gkey g).map fun n=>.k (.p n 0)
 | .func f=>(T.fkey f).map fun n=>.k (.fn n [])
def cXs (l:List Operand):Option (List X) :=
 match l with
 | []=>some []
 | x::l =>
  match cX T x,cXs l with
  | some a,some asq=>some (a::asq)
  | _,_=>none
def cXo:Option Operand→Option (Option X)
 | none=>some none
 | some x=>(cX T x).map some
def szOf (t:TypeId):Option Nat:=(P.info? t).map (·.size)
def aggOf (t:TypeId):Option Bool :=
 match P.underlying t with
 | some (.struct _)|some (.array _ _)=>some true
 | some _=>some false
 | none=>none
def zOf (t:TypeId):Option (List AV):=((P.info? t).bind (·.zero)).bind fun v=>ofCells v.cells.toList
def flatGo (fl:TypeId→Option (List Nat)):List Field→Nat→Option (List Nat)
 | [],_=>some []
 | f::fs,k =>
  if f.name ≠ "_" ∧ f.offset=k then
   match fl f.type with
   | some ks=>if szOf P f.type=some ks.length then (flatGo fl fs (k+ks.length)).map fun r=>ks++r else none
   | none=>none
  else none
def flatK:Nat→TypeId→Option (List Nat)
 | 0,_=>none
 | d+1,t =>
  match P.underlying t with
  | some .bool=>some [0]
  | some (.int _)=>some [1]
  | some .string=>some [2]
  | some (.struct fs)=>if P.stoodInHeld t then none else flatGo P (flatK d) fs.toList 0
  | some (.array n e) =>
   match flatK d e with
   | some ks=>if szOf P e=some ks.length then some (List.replicate n ks).flatten else none
   | none=>none
  | _=>none
def cPlaces (place:Nat→Option (Nat×Nat)):List (Nat×Operand)→Option (List (Nat×Nat×X))
 | []=>some []
 | (i,x)::l =>
  match place i,cX T x,cPlaces place l with
  | some (o,s),some a,some r=>some ((o,s,a)::r)
  | _,_,_=>none
def sPlace (fs:Array Field) (i:Nat):Option (Nat×Nat):=(fs[i]?).bind fun f=>(szOf P f.type).map fun s=>(f.offset,s)
def cBuiltin (b:Builtin) (tys:List TypeId) (l:List X):Option XO :=
 match b,tys,l with
 | .len,[t],[x] =>
  match P.underlying t with
  | some .string=>some (.lens x)
  | some (.slice _)=>some (.len x)
  | some (.array n _)=>some (.lenc n)
  | some (.pointer a)=>match P.underlying a with|some (.array n _)=>some (.lenc n)|_=>none
  | _=>none
 | .append,[t,u],[s,x] =>
  match P.underlying t,P.underlying u with
  | some (.slice e),some ud =>
   match (match ud with | .slice _ | .string=>true|_=>false) with
   | false=>none
   | true=>match szOf P e,(P.info? e).map (·.bytes),zOf P e with|some z,some by_,some zs=>if z≠0∧zs.length=z∧by_≠0 then some (.app z by_ s x) else none|_,_,_=>none
  | _,_=>none
 | .copy,[t,_],[d,s] =>
  match P.underlying t with
  | some (.slice e)=>match szOf P e with|some z=>if z≠0 then some (.cpy z d s) else none|none=>none
  | _=>none
 | .max,_,x::l=>some (.mm true x l)
 | .min,_,x::l=>some (.mm false x l)
 | _,_,_=>none
def isNilS:Operand→Bool
 | .const (.slice none 0 0)=>true
 | _=>false
def isNeq:BinOp→Bool
 | .neq=>true
 | _=>false
def cOp:Op→Option XO
 | .move x | .assign x=>(cX T x).map .mov
 | .pick c a b=>match cX T c,cX T a,cX T b with|some c,some a,some b=>some (.pick c a b)|_,_,_=>none
 | .alloc e=>(zOf P e).map .new
 | .box _ x=>(cX T x).map .box
 | .build t ps =>
  match P.underlying t,zOf P t with
  | some (.struct fs),some z=>(cPlaces T (sPlace P fs) ps.toList).bind fun l=>if (fs.all fun f=>(szOf P f.type).isSome) then some (.build z l) else none
  | some (.array _ e),some z=>(szOf P e).bind fun s=>(cPlaces T (fun i=>some (i*s,s)) ps.toList).map fun l=>.build z l
  | _,_=>none
 | .buildSlice t n ps =>
  match P.underlying t with
  | some (.slice e) =>
   match szOf P e,zOf P e with
   | some s,some z=>(cPlaces T (fun i=>some (i*s,s)) ps.toList).bind fun l=>if s≠0 then some (.bsl n s z l) else none
   | _,_=>none
  | _=>none
 | .load t x=>match aggOf P t,szOf P t,cX T x with|some g,some n,some a=>some (.load g n a)|_,_,_=>none
 | .store t a x=>match szOf P t,cX T a,cX T x with|some n,some a,some x=>some (.store n a x)|_,_,_=>none
 | .nilCheck x=>(cX T x).map .nilck
 | .binOp op t x y _ =>
  match cX T x,cX T y with
  | some a,some b =>
   match op with
   | .eql | .neq =>
    match P.underlying t with
    | some (.int _)|some .string=>some (.bin op a b)
    | some .bool=>some (.eqt (isNeq op) 0 a b)
    | some (.pointer e)=>match szOf P e with|some n=>if n≠0 then some (.eqt (isNeq op) 1 a b) else none|none=>none
    | some (.interface _)=>if Region.isConst x || Region.isConst y then some (.eqt (isNeq op) 2 a b) else none
    | some (.slice _)=>if isNilS y then some (.eqt (isNeq op) 3 a b) else none
    | some (.struct _)|some (.array _ _) =>
     if P.eqGuardType P.depth t then none else
     match flatK P 100 t with
     | some ks=>if szOf P t=some ks.length then some (.eqa (isNeq op) ks a b) else none
     | none=>none
    | _=>none
   | _=>some (.bin op a b)
  | _,_=>none
 | .unOp op _ x=>(cX T x).map (.un op)
 | .convert s d x =>
  match P.underlying s,P.underlying d,cX T x with
  | some (.int _),some (.int k),some a=>some (.cint k a)
  | some .string,some .string,some a=>some (.cstr a)
  | some .string,some (.slice e),some a=>match P.underlying e with|some (.int .u8)=>some (.s2b a)|_=>none
  | some (.slice e),some .string,some a=>match P.underlying e with|some (.int .u8)=>some (.b2s a)|_=>none
  | _,_,_=>none
 | .makeInterface t x =>
  match P.underlying t,cX T x with
  | some (.interface _),_=>none
  | some _,some a=>some (.mif t a)
  | _,_=>none
 | .makeFunc (.func f) first l=>if first = #[] then match T.fkey f,cXs T l.toList with|some k,some l=>some (.mfn k l)|_,_=>none else none
 | .makeSlice t n c =>
  match P.underlying t with
  | some (.slice e) =>
   match szOf P e,zOf P e,(P.info? e).map (·.bytes),cX T n,cX T c with
   | some s,some z,some by_,some n,some c=>if s≠0∧z.length=s then some (.msl z by_ n c) else none
   | _,_,_,_,_=>none
  | _=>none
 | .slice t x lo hi mx =>
  match P.underlying t,cX T x,cXo T lo,cXo T hi,cXo T mx with
  | some .string,some a,some l,some h,some none=>some (.slstr a l h)
  | some (.slice e),some a,some l,some h,some m=>match szOf P e with|some z=>if z≠0 then some (.slsl z a l h m) else none|none=>none
  | some (.array n e),some a,some l,some h,some none=>match szOf P e with|some z=>if z≠0 then some (.slarr n z a l h) else none|none=>none
  | _,_,_,_,_=>none
 | .fieldAddr s x f =>
  match P.underlying s,cX T x with
  | some (.struct fs),some a=>(fs[f]?).bind fun fd=>match szOf P fd.type with|some n=>if n≠0 then some (.fad fd.offset a) else none|none=>none
  | _,_=>none
 | .field t x f =>
  match P.underlying t,cX T x with
  | some (.struct fs),some a=>(fs[f]?).bind fun fd=>match aggOf P fd.type,szOf P fd.type with|some g,some n=>some (.fld g fd.offset n a)|_,_=>none
  | _,_=>none
 | .indexAddr t x i =>
  match P.underlying t,cX T x,cX T i with
  | some (.array n e),some a,some j=>(szOf P e).map fun z=>.ixa n z a j
  | some (.slice e),some a,some j=>(szOf P e).map fun z=>.ixs z a j
  | _,_,_=>none
 | .index t x i =>
  match P.underlying t,cX T x,cX T i with
  | some (.array n e),some a,some j=>match aggOf P e,szOf P e with|some g,some z=>some (.iag n g z a j)|_,_=>none
  | some .string,some a,some j=>some (.istr a j)
  | _,_,_=>none
 | .extract x n=>(cX T x).map fun a=>.ext a n
 | .call c =>
  match cXs T c.args.toList with
  | none=>none
  | some l =>
   match c.callee with
   | .value (.func f)=>(T.fkey f).map fun k=>.call k l
   | .value x=>(cX T x).map fun a=>.callv a l
   | .builtin b=>cBuiltin P b c.argTypes.toList l
   | .invoke _ _=>none
 | _=>none
def cAfter (o:Oper):List Nat:=(o.after.toList.filter (Region.binds .any)).map (·.on)
def cOper (ops:List Oper) (o:Oper):XOper :=
 match o.guard with
 | none=>{ dst:=o.dst,op:=(cOp P T o.op).getD .fail,after:=cAfter o,guard:=none }
 | some (j,b) =>
  match (ops[j]?).bind (·.dst) with
  | some d=>{ dst:=o.dst,op:=(cOp P T o.op).getD .fail,after:=cAfter o,guard:=some (d,b) }
  | none=>{ dst:=o.dst,op:=.fail,after:=cAfter o,guard:=none }
def closureGo:List XOper→List Nat→List Nat
 | [],acc=>acc
 | o::l,acc=>closureGo l (acc++[o.after.foldl (fun s e=>s ||| 2^e ||| acc.getD e 0) 0])
def closure (ops:List XOper):List Nat:=closureGo ops []
def chkOf (ops:List XOper):List (Nat×Nat) :=
 let d:=closure ops
 (List.range ops.length).flatMap fun j=>(List.range j).flatMap fun i =>
  match ops[i]?,ops[j]? with
  | some a,some b =>
   if (d.getD j 0).testBit i then [] else
   if (a.op.cls=1∨a.op.cls=2)∧b.op.cls=3 then [(i,j)] else if a.op.cls=3∧b.op.cls=2 then [(j,i)] else []
  | _,_=>[]
def cCode:Code→XC
 | .skip=>.skip
 | .label _=>.skip
 | .region _ ops draw =>
  let l:=ops.toList.map (cOper P T ops.toList)
  if draw then .drw l (chkOf l) else .reg l
 | .seq a b=>.seq (cCode a) (cCode b)
 | .cond c a b=>match cX T c with|some x=>.cond x (cCode a) (cCode b)|none=>.fail
 | .block id a=>.block id (cCode a)
 | .loop a=>.loop (cCode a)
 | .exit id=>.exit id
 | .scope a=>.scope (cCode a)
 | .ret=>.ret
 | _=>.fail
def cRes:ResultVar→Option XR
 | .tmp t=>some (.tmp t)
 | .cell a t=>match aggOf P t,szOf P t with|some g,some n=>some (.cell a g n)|_,_=>none
def cRess:List ResultVar→Option (List XR)
 | []=>some []
 | r::l=>match cRes P r,cRess l with|some a,some asq=>some (a::asq)|_,_=>none
def cFunc (fn:Func):Option XF :=
 match fn.body,cRess P fn.results.toList with
 | some c,some rs=>some { n:=fn.ntmps,body:=cCode P T c,res:=rs }
 | _,_=>none
end
end Go.Eng
namespace Go.Eng
variable {F:Nat} {key:Nat→Option FuncId}
theorem zb4 (b o i:Nat):(⟨b,o,none⟩:Addr).add i=⟨b,o+i,none⟩:=by unfold Addr.add;split<;>simp_all
theorem Rel.one {l:Loc} {v:AV} {w:Value} (h:Rel key l v w) (hs:v.scal=true):w.oneCell'=true:=by
 cases h<;>first|rfl|(simp[AV.scal] at hs)
theorem Rel.cells {l:Loc} {v:AV} {w:Value} (h:Rel key l v w):RelL key l v.cells w.cells.toList:=by
 cases h with
 | @ag vs ws hn hv =>
  refine⟨by simpa [AV.cells,Value.cells] using hn,fun i h1 h2=>?_⟩
  have h1':i<vs.length:=h1
  have h2':i<ws.size:=by simpa [Value.cells] using h2
  have:=hv i h1' h2'
  show Rel key l vs[i] (ws.toList[i]'h2)
  rw[Array.getElem_toList]
  exact this
 | b v=>exact RelL.cons (.b v) .nil
 | i k n=>exact RelL.cons (.i k n) .nil
 | s s=>exact RelL.cons (.s s) .nil
 | p h=>exact RelL.cons (.p h) .nil
 | pn=>exact RelL.cons .pn .nil
 | sl h h1 h2 h3=>exact RelL.cons (.sl h h1 h2 h3) .nil
 | se a=>exact RelL.cons (.se a) .nil
 | e0 a c=>exact RelL.cons (.e0 a c) .nil
 | sn=>exact RelL.cons .sn .nil
 | fn h hn hv=>exact RelL.cons (.fn h hn hv) .nil
 | fnil=>exact RelL.cons .fnil .nil
 | inil=>exact RelL.cons .inil .nil
 | ia h=>exact RelL.cons (.ia h) .nil
 | tu hn hv=>exact RelL.cons (.tu hn hv) .nil
theorem RelL.take {l:Loc} {vs:List AV} {ws:List Value} (h:RelL key l vs ws) (k:Nat):RelL key l (vs.take k) (ws.take k) :=
 ⟨by simp[h.1],fun i h1 h2=>by simp only[List.getElem_take];exact h.2 i _ _⟩
theorem RelL.drop {l:Loc} {vs:List AV} {ws:List Value} (h:RelL key l vs ws) (k:Nat):RelL key l (vs.drop k) (ws.drop k) :=
 ⟨by simp[h.1],fun i h1 h2=>by simp only[List.getElem_drop];exact h.2 _ _ _⟩
theorem RelL.append {l:Loc} {vs vs':List AV} {ws ws':List Value} (h:RelL key l vs ws) (h':RelL key l vs' ws'):RelL key l (vs++vs') (ws++ws'):=by
 refine⟨by simp[h.1,h'.1],fun i h1 h2=>?_⟩
 by_cases hi:i<vs.length
 ·rw[List.getElem_append_left hi,List.getElem_append_left (by rw[←h.1];exact hi)];exact h.2 _ _ _
 ·rw[List.getElem_append_right (by omega),List.getElem_append_right (by rw[←h.1];omega)]
  have e:=h.1
  have:=h'.2 (i-vs.length) (by simp at h1;omega) (by simp at h2;omega)
  simpa [h.1] using this
theorem RelL.ag {l:Loc} {vs:List AV} {ws:List Value} (h:RelL key l vs ws):Rel key l (.ag vs) (.agg ws.toArray) :=
 .ag (by simpa using h.1) (fun i h1 h2=>by have:=h.2 i h1 (by simpa using h2);simpa using this)
theorem RelL.tu {l:Loc} {vs:List AV} {ws:List Value} (h:RelL key l vs ws):Rel key l (.tu vs) (.tuple ws.toArray) :=
 .tu (by simpa using h.1) (fun i h1 h2=>by simpa using h.2 i h1 (by simpa using h2))
theorem RelL.of_ag {l:Loc} {vs:List AV} {ws:Array Value} (h:Rel key l (.ag vs) (.agg ws)):RelL key l vs ws.toList:=by
 cases h with
 | ag hn hv=>exact⟨by simpa using hn,fun i h1 h2=>by simpa using hv i h1 (by simpa using h2)⟩
theorem RelL.one {l:Loc} {vs:List AV} {ws:List Value} (h:RelL key l vs ws) (hs:vs.all AV.scal=true):∀w∈ws,w.oneCell'=true:=by
 intro w hw
 obtain⟨i,hi,rfl⟩:=List.mem_iff_getElem.1 hw
 exact(h.2 i (by rw[h.1];exact hi) hi).one (by rw[List.all_eq_true] at hs;exact hs _ (List.getElem_mem _))
theorem Holds.read {l:Loc} {blk:Blk} {a:At} {w:World} (H:Holds key l blk a w) (off k:Nat) (hk:off+k≤blk.v.length) :
  ∃ws:List Value,RelL key l ((blk.v.drop off).take k) ws∧ws.length=k∧(∀j v,ws[j]?=some v→w.cell? ((⟨a.b,a.o+off,none⟩:Addr).add j)=some v)∧(∀v∈ws,v.oneCell'=true):=by
 have hc:∀i:Nat,∃v,∀h:i<blk.v.length,w.cell? ⟨a.b,a.o+i,none⟩=some v∧Rel key l blk.v[i] v:=by
  intro i
  by_cases h:i<blk.v.length
  ·obtain⟨v,h1,h2⟩:=H.cell i h;exact⟨v,fun _=>⟨h1,h2⟩⟩
  ·exact⟨undef,fun h'=>absurd h' h⟩
 obtain⟨f,hf⟩:∃f:Nat→Value,∀i,∀h:i<blk.v.length,w.cell? ⟨a.b,a.o+i,none⟩=some (f i)∧Rel key l blk.v[i] (f i) :=
  ⟨fun i=>Classical.choose (hc i),fun i=>Classical.choose_spec (hc i)⟩
 refine⟨(List.range k).map fun j=>f (off+j),⟨by simp;omega,fun i h1 h2=>?_⟩,by simp,fun j v hj=>?_,fun v hv=>?_⟩
 ·simp only[List.getElem_take,List.getElem_drop,List.getElem_map,List.getElem_range]
  exact(hf (off+i) (by simp at h1;omega)).2
 ·rw[List.getElem?_map] at hj
  by_cases hjk:j<k
  ·rw[List.getElem?_range hjk] at hj
   simp at hj
   rw[zb4,←hj,Nat.add_assoc]
   exact(hf (off+j) (by omega)).1
  ·simp[hjk] at hj
 ·simp at hv
  obtain⟨j,hj,rfl⟩:=hv
  exact(hf (off+j) (by omega)).2.one (H.scal _ (by omega))
structure HpLe (h h':Hp):Prop where
 next:h.next≤h'.next
 blk:∀n,n<h.next→h'.m n=h.m n∨h'.m n=none∨∃b b',h.m n=some b∧h'.m n=some b'∧b.ver<b'.ver∧(b'.rw=true→b.rw=true)∧b'.v.length=b.v.length
theorem HpLe.refl (h:Hp):HpLe h h:=⟨Nat.le_refl _,fun _ _=>.inl rfl⟩
theorem HpLe.trans {a b c:Hp} (h:HpLe a b) (k:HpLe b c):HpLe a c:=by
 refine⟨Nat.le_trans h.next k.next,fun n hn=>?_⟩
 rcases k.blk n (Nat.lt_of_lt_of_le hn h.next) with e|e|⟨x,y,e1,e2,e3,e4,e5⟩
 ·rw[e];exact h.blk n hn
 ·exact .inr (.inl e)
 ·rcases h.blk n hn with f|f|⟨x',y',f1,f2,f3,f4,f5⟩
  ·exact .inr (.inr ⟨x,y,by rw[←f];exact e1,e2,e3,e4,e5⟩)
  ·rw[f] at e1;cases e1
  ·rw[f2] at e1;cases e1
   exact .inr (.inr ⟨x',y,f1,e2,Nat.lt_trans f3 e3,fun z=>f4 (e4 z),e5.trans f5⟩)
structure Ext (l:Loc) (h:Hp) (w:World) (l':Loc) (h':Hp) (w':World):Prop where
 le:l.le l'
 hle:HpLe h h'
 new:∀n a,l' n=some a→l n=some a∨(h.next≤n∧n<h'.next∧(w.heap.size≤a.b∨∃m blk a',h.m m=some blk∧blk.rw=true∧l m=some a'∧a'.b=a.b))
 size:w.heap.size≤w'.heap.size
 os:w'.os=w.os
 tape:w'.tape=w.tape
 output:w'.output=w.output
 frame:∀b,b<w.heap.size→(∀m blk a,h.m m=some blk→blk.rw=true→l m=some a→a.b≠b)→w'.heap[b]?=w.heap[b]?
theorem Ext.refl (l:Loc) (h:Hp) (w:World):Ext l h w l h w :=
 ⟨l.le_refl,.refl h,fun _ _ e=>.inl e,Nat.le_refl _,rfl,rfl,rfl,fun _ _ _=>rfl⟩
theorem Ext.trans {l l1 l2:Loc} {h h1 h2:Hp} {w w1 w2:World} (hd:∀n a,l n=some a→n<h.next∨h1.m n=none) (A:Ext l h w l1 h1 w1) (B:Ext l1 h1 w1 l2 h2 w2):Ext l h w l2 h2 w2:=by
 have key1:∀m blk a,h1.m m=some blk→blk.rw=true→l1 m=some a→w.heap.size≤a.b∨∃m' blk' a',h.m m'=some blk'∧blk'.rw=true∧l m'=some a'∧a'.b=a.b:=by
  intro m blk a e1 e2 e3
  rcases A.new m a e3 with f|⟨_,_,f⟩
  ·have hm:m<h.next:=(hd m a f).resolve_right (by rw[e1];simp)
   rcases A.hle.blk m hm with g|g|⟨x,y,g1,g2,_,g4,_⟩
   ·exact .inr ⟨m,blk,a,by rw[←g];exact e1,e2,f,rfl⟩
   ·rw[g] at e1;cases e1
   ·rw[g2] at e1;cases e1
    exact .inr ⟨m,x,a,g1,g4 e2,f,rfl⟩
  ·exact f
 refine⟨Loc.le_trans A.le B.le,A.hle.trans B.hle,fun n a e=>?_,Nat.le_trans A.size B.size,B.os.trans A.os,B.tape.trans A.tape,B.output.trans A.output,fun b hb hne=>?_⟩
 ·rcases B.new n a e with f|⟨f1,f2,f3⟩
  ·rcases A.new n a f with g|⟨g1,g2,g3⟩
   ·exact .inl g
   ·exact .inr ⟨g1,Nat.lt_of_lt_of_le g2 B.hle.next,g3⟩
  ·refine .inr ⟨Nat.le_trans A.hle.next f1,f2,?_⟩
   rcases f3 with f3|⟨m,blk,a',e1,e2,e3,e4⟩
   ·exact .inl (Nat.le_trans A.size f3)
   ·rw[←e4];exact key1 m blk a' e1 e2 e3
 ·rw[B.frame b (Nat.lt_of_lt_of_le hb A.size) ?_,A.frame b hb hne]
  intro m blk a e1 e2 e3 heq
  rcases key1 m blk a e1 e2 e3 with g|⟨m',blk',a',g1,g2,g3,g4⟩
  ·omega
  ·exact hne m' blk' a' g1 g2 g3 (g4.trans heq)
theorem Sim.hd {l:Loc} {h h1:Hp} {w:World} (S:Sim key F l h w) (wf1:∀n,h1.next≤n→h1.m n=none) (hF:h1.next≤F):∀n a,l n=some a→n<h.next∨h1.m n=none:=fun n a e=>by
 rcases S.dom n a e with g|g
 ·exact .inl g
 ·exact .inr (wf1 n (Nat.le_trans hF g))
end Go.Eng
namespace Go.Eng
def Hp.wf (h:Hp):Prop:=∀n,h.next≤n→h.m n=none
structure HpOk (h h':Hp):Prop where
 le:HpLe h h'
 wf:h.wf→h'.wf
theorem HpOk.refl (h:Hp):HpOk h h:=⟨.refl h,fun x=>x⟩
theorem HpOk.trans {a b c:Hp} (h:HpOk a b) (k:HpOk b c):HpOk a c:=⟨h.le.trans k.le,fun x=>k.wf (h.wf x)⟩
theorem HpOk.push (h:Hp) (l:List AV):HpOk h (h.push l) :=
 ⟨⟨by simp[Hp.push],fun n hn=>.inl (by simp[Hp.push];omega)⟩,fun w n hn=>by
  have hn':h.next+1≤n:=hn
  simp only[Hp.push]
  rw[if_neg (by omega)]
  exact w n (by omega)⟩
theorem HpOk.kill (h:Hp) (n:Nat):HpOk h (h.kill n) :=
 ⟨⟨Nat.le_refl _,fun m _=>by
  by_cases hm:m=n
  ·exact .inr (.inl (by simp[Hp.kill,hm]))
  ·exact .inl (by simp[Hp.kill,hm])⟩,fun w m hm=>by
  simp only[Hp.kill]
  split
  ·rfl
  ·exact w m hm⟩
theorem HpOk.upd {h:Hp} {n:Nat} {b:Blk} (hb:h.m n=some b) (v:List AV) (hv:v.length=b.v.length):HpOk h (h.upd n { b with v:=v,ver:=b.ver+1 }) :=
 ⟨⟨Nat.le_refl _,fun m _=>by
  by_cases hm:m=n
  ·subst hm
   exact .inr (.inr ⟨b,{ b with v:=v,ver:=b.ver+1 },hb,by simp[Hp.upd],by simp,fun z=>z,hv⟩)
  ·exact .inl (by simp[Hp.upd,hm])⟩,fun w m hm=>by
  simp only[Hp.upd]
  split
  ·rename_i e
   subst e
   have hm':h.next≤m:=hm
   rw[w m hm'] at hb
   cases hb
  ·exact w m hm⟩
def GoodCall (call:Nat→List AV→Hp→Option (AV×Hp)):Prop:=∀f args h v h',call f args h=some (v,h')→HpOk h h'
variable {call:Nat→List AV→Hp→Option (AV×Hp)}
theorem zcQ (l cs:List AV) (off:Nat) (h:off+cs.length≤l.length):(splice l off cs).length=l.length:=by simp[splice];omega
theorem zid (G:GoodCall call) {fr:Fr} {h h':Hp} {o:XO} {v:AV} (he:o.ev call fr h=some (v,h')):HpOk h h':=by
 have pure0:∀{α:Type} {q:Option α} {g:α→AV},(q.map fun x=>(g x,h))=some (v,h')→HpOk h h':=fun {_ q _} hq=>by
  cases q with
  | none=>simp at hq
  | some z=>simp at hq;rw[←hq.2];exact .refl h
 cases o<;>simp only[XO.ev] at he
 case call f l=>exact G _ _ _ _ _ he
 case callv x l =>
  split at he
  ·exact G _ _ _ _ _ he
  ·cases he
 case new z=>split at he<;>cases he;exact .push _ _
 case box x=>split at he<;>cases he;exact .push _ _
 case bsl n sz z ps =>
  split at he
  ·split at he
   ·split at he<;>cases he
    ·exact .refl _
    ·exact .push _ _
   ·cases he
  ·cases he
 case msl z by_ n c =>
  split at he
  ·split at he
   ·split at he<;>cases he
    ·exact .refl _
    ·exact .push _ _
   ·cases he
  ·cases he
 case s2b x =>
  split at he
  ·split at he<;>cases he
   ·exact .refl _
   ·exact .push _ _
  ·cases he
 case store n a x =>
  split at he
  ·split at he
   ·rename_i b hb
    split at he
    ·rename_i hc
     cases he
     exact .upd hb _ (zcQ _ _ _ (by omega))
    ·cases he
   ·cases he
  ·cases he
 case app z by_ s x =>
  unfold appA at he
  split at he
  ·cases he
  ·split at he
   ·split at he
    ·cases he;exact .refl _
    ·split at he<;>cases he
     exact .push _ _
   ·split at he
    ·cases he;exact .refl _
    ·split at he<;>cases he
     exact .push _ _
   ·split at he
    ·cases he
    ·split at he
     ·cases he;exact .refl _
     ·split at he
      ·split at he<;>cases he
       exact(HpOk.kill _ _).trans (.push _ _)
      ·cases he
   ·cases he
 case cpy z d s =>
  unfold cpyA at he
  split at he
  ·cases he
  ·rename_i n cs hsrc
   split at he
   ·cases he;exact .refl _
   ·cases he;exact .refl _
   ·cases he;exact .refl _
   ·split at he
    ·cases he
    ·split at he
     ·rename_i b hb
      split at he
      ·rename_i hc
       cases he
       refine .upd hb _ (zcQ _ _ _ ?_)
       simp only[List.length_take]
       omega
      ·cases he
     ·cases he
   ·cases he
 all_goals first
  | exact pure0 he
  | (cases he;done)
  | (cases he;exact .refl _)
  | (split at he<;>first
    | (cases he;exact .refl _)
    | (cases he;done)
    | exact pure0 he
    | (split at he<;>first
      | (cases he;exact .refl _)
      | (cases he;done)
      | exact pure0 he
      | (split at he<;>first|(cases he;exact .refl _)|(cases he;done)|exact pure0 he|(split at he<;>first|(cases he;exact .refl _)|(cases he;done)|exact pure0 he))))
theorem zbC (G:GoodCall call):∀{os:List XOper} {fr fr':Fr} {h h':Hp},evOps call os fr h=some (fr',h')→HpOk h h'
 | [],fr,fr',h,h',he=>by simp[evOps] at he;rw[←he.2];exact .refl _
 | o::os,fr,fr',h,h',he=>by
  simp only[evOps] at he
  split at he
  ·split at he
   ·rename_i v h1 hev
    exact(zid G hev).trans (zbC G he)
   ·cases he
  ·exact zbC G he
theorem zdE:∀{os:List XOper} {fr fr':Fr} {h:Hp} {hs:List Hp},evOpsT call os fr h=some (fr',hs)→∃h',hs.getLast?=some h'∧evOps call os fr h=some (fr',h')∧hs.length=os.length+1∧hs.head?=some h
 | [],fr,fr',h,hs,he=>by
  simp[evOpsT] at he
  obtain⟨rfl,rfl⟩:=he
  exact⟨h,rfl,rfl,rfl,rfl⟩
 | o::os,fr,fr',h,hs,he=>by
  simp only[evOpsT] at he
  split at he
  ·rename_i hw
   split at he
   ·rename_i v h1 hev
    cases hr:evOpsT call os (fr.put o.dst v) h1 with
    | none=>simp[hr] at he
    | some r =>
     obtain⟨f2,hs2⟩:=r
     simp[hr] at he
     obtain⟨rfl,rfl⟩:=he
     obtain⟨h',g1,g2,g3,g4⟩:=zdE hr
     refine⟨h',?_,by simp only[evOps,hw,if_true,hev];exact g2,by simp[g3],rfl⟩
     cases hs2 with
     | nil=>simp at g3
     | cons q qs=>simpa [List.getLast?_cons_cons] using g1
   ·cases he
  ·rename_i hw
   cases hr:evOpsT call os (fr.put o.dst undefA) h with
   | none=>simp[hr] at he
   | some r =>
    obtain⟨f2,hs2⟩:=r
    simp[hr] at he
    obtain⟨rfl,rfl⟩:=he
    obtain⟨h',g1,g2,g3,g4⟩:=zdE hr
    refine⟨h',?_,by simp only[evOps];rw[if_neg hw];exact g2,by simp[g3],rfl⟩
    cases hs2 with
    | nil=>simp at g3
    | cons q qs=>simpa [List.getLast?_cons_cons] using g1
theorem zfh {os:List XOper} {chk:List (Nat×Nat)} {fr fr':Fr} {h h':Hp} (he:evDrw call os chk fr h=some (fr',h')):evOps call os fr h=some (fr',h'):=by
 unfold evDrw at he
 split at he
 ·exact he
 ·split at he
  ·rename_i f hs hev
   obtain⟨h1,g1,g2,_,_⟩:=zdE hev
   split at he
   ·simp[g1] at he
    obtain⟨rfl,rfl⟩:=he
    exact g2
   ·cases he
  ·cases he
theorem zcr {body:Step} (hb:∀fr h o fr' h',body fr h=some (o,fr',h')→HpOk h h'):∀(k:Nat) {fr:Fr} {h:Hp} {o:Out} {fr':Fr} {h':Hp},evLoop body k fr h=some (o,fr',h')→HpOk h h'
 | 0,_,_,_,_,_,he=>by simp[evLoop] at he
 | k+1,fr,h,o,fr',h',he=>by
  simp only[evLoop] at he
  split at he
  ·rename_i f1 h1 hev
   exact(hb _ _ _ _ _ hev).trans (zcr hb k he)
  ·exact hb _ _ _ _ _ he
theorem zbj (G:GoodCall call) (lf:Nat):∀(c:XC) {fr:Fr} {h:Hp} {o:Out} {fr':Fr} {h':Hp},evCode call lf c fr h=some (o,fr',h')→HpOk h h':=by
 intro c
 induction c with
 | skip=>intro fr h o fr' h' he;simp[evCode] at he;rw[←he.2.2];exact .refl _
 | reg ops =>
  intro fr h o fr' h' he
  simp only[evCode] at he
  cases hev:evOps call ops fr h with
  | none=>simp[hev] at he
  | some r=>simp[hev] at he;rw[←he.2.2];exact zbC G hev
 | drw ops chk =>
  intro fr h o fr' h' he
  simp only[evCode] at he
  cases hev:evDrw call ops chk fr h with
  | none=>simp[hev] at he
  | some r=>simp[hev] at he;rw[←he.2.2];exact zbC G (zfh hev)
 | seq a b iha ihb =>
  intro fr h o fr' h' he
  simp only[evCode] at he
  split at he
  ·rename_i f1 h1 hev;exact(iha hev).trans (ihb he)
  ·exact iha he
 | cond c a b iha ihb =>
  intro fr h o fr' h' he
  simp only[evCode] at he
  split at he
  ·split at he
   ·exact iha he
   ·exact ihb he
  ·cases he
 | block id a ih =>
  intro fr h o fr' h' he
  simp only[evCode] at he
  split at he
  ·rename_i i f1 h1 hev
   split at he<;>(cases he;exact ih hev)
  ·exact ih he
 | loop a ih=>intro fr h o fr' h' he;simp only[evCode] at he;exact zcr (fun _ _ _ _ _ q=>ih q) _ he
 | exit id=>intro fr h o fr' h' he;simp[evCode] at he;rw[←he.2.2];exact .refl _
 | scope a ih=>intro fr h o fr' h' he;simp only[evCode] at he;exact ih he
 | ret=>intro fr h o fr' h' he;simp[evCode] at he;rw[←he.2.2];exact .refl _
 | fail=>intro fr h o fr' h' he;simp[evCode] at he
end Go.Eng
namespace Go.Eng
theorem zdL (acc : List Nat) : ∀ (es : List Nat) (s i : Nat), (es.foldl (fun s e => s ||| 2 ^ e ||| acc.getD e 0) s).testBit i = true → s.testBit i = true ∨ ∃ e ∈ es, i = e ∨ (acc.getD e 0).testBit i = true
  | [], s, i, h => .inl h
  | e :: es, s, i, h => by
    rcases zdL acc es _ i h with g | ⟨e', h1, h2⟩
    · rw [Nat.testBit_or, Nat.testBit_or, Nat.testBit_two_pow] at g
      simp only [Bool.or_eq_true, decide_eq_true_eq] at g
      rcases g with (g | g) | g
      · exact .inl g
      · exact .inr ⟨e, by simp, .inl g.symm⟩
      · exact .inr ⟨e, by simp, .inr g⟩
    · exact .inr ⟨e', by simp [h1], h2⟩
def Closed (ops : List XOper) (D : Nat → Prop) : Prop := ∀ j o, ops[j]? = some o → D j → ∀ e ∈ o.after, D e
theorem zcn (ops : List XOper) : ∀ (l pre : List XOper) (acc : List Nat), ops = pre ++ l → acc.length = pre.length →
    (∀ j i, (acc.getD j 0).testBit i = true → ∀ D, Closed ops D → (∀ o, ops[j]? = some o → ∀ e ∈ o.after, D e) → D i) →
    ∀ j i, ((closureGo l acc).getD j 0).testBit i = true → ∀ D, Closed ops D → (∀ o, ops[j]? = some o → ∀ e ∈ o.after, D e) → D i
  | [], pre, acc, _, _, inv => inv
  | o :: l, pre, acc, he, hl, inv => by
    refine zcn ops l (pre ++ [o]) _ (by simp [he]) (by simp [hl]) ?_
    intro j i hb D hD hj
    by_cases hlt : j < acc.length
    · refine inv j i ?_ D hD hj
      rwa [List.getD_eq_getElem?_getD, List.getElem?_append_left hlt, ← List.getD_eq_getElem?_getD] at hb
    · by_cases heq : j = acc.length
      · subst heq
        rw [List.getD_eq_getElem?_getD, List.getElem?_append_right (Nat.le_refl _)] at hb
        simp only [Nat.sub_self, List.getElem?_cons_zero, Option.getD_some] at hb
        have hop : ops[acc.length]? = some o := by rw [he, hl, List.getElem?_append_right (Nat.le_refl _)]; simp
        rcases zdL acc o.after 0 i hb with g | ⟨e, h1, h2⟩
        · simp at g
        · have hDe := hj o hop e h1
          rcases h2 with rfl | h2
          · exact hDe
          · exact inv e i h2 D hD fun o' ho' e' he' => hD e o' ho' hDe e' he'
      · rw [List.getD_eq_getElem?_getD, List.getElem?_eq_none (by simp; omega)] at hb
        simp at hb
def bef (ops : List XOper) (j i : Nat) : Bool := ((closure ops).getD j 0).testBit i
theorem zcB {ops : List XOper} {j i : Nat} (h : bef ops j i = true) {D : Nat → Prop} (hD : Closed ops D) (hj : ∀ o, ops[j]? = some o → ∀ e ∈ o.after, D e) : D i :=
  zcn ops ops [] [] rfl rfl (fun j i hb => by simp at hb) j i h D hD hj
theorem zd7 {ops : List XOper} {j i : Nat} (h : bef ops j i = true) {D : Nat → Prop} (hD : Closed ops D) (hj : D j) : D i :=
  zcB h hD fun o ho => hD j o ho hj
def oX : Option X → List X
  | some x => [x]
  | none => []
def XO.opds : XO → List X
  | .mov x => [x]
  | .pick c a b => [c, a, b]
  | .new _ => []
  | .box x => [x]
  | .build _ ps => ps.map (·.2.2)
  | .bsl _ _ _ ps => ps.map (·.2.2)
  | .load _ _ x => [x]
  | .store _ a x => [a, x]
  | .nilck x => [x]
  | .bin _ x y => [x, y]
  | .eqt _ _ x y => [x, y]
  | .eqa _ _ x y => [x, y]
  | .un _ x => [x]
  | .cint _ x => [x]
  | .cstr x => [x]
  | .b2s x => [x]
  | .s2b x => [x]
  | .mif _ x => [x]
  | .mfn _ l => l
  | .msl _ _ n c => [n, c]
  | .slstr x lo hi => x :: (oX lo ++ oX hi)
  | .slsl _ x lo hi mx => x :: (oX lo ++ oX hi ++ oX mx)
  | .slarr _ _ x lo hi => x :: (oX lo ++ oX hi)
  | .fad _ x => [x]
  | .fld _ _ _ x => [x]
  | .ixa _ _ x i => [x, i]
  | .ixs _ x i => [x, i]
  | .iag _ _ _ x i => [x, i]
  | .istr x i => [x, i]
  | .ext x _ => [x]
  | .call _ l => l
  | .callv x l => x :: l
  | .len x => [x]
  | .lens x => [x]
  | .lenc _ => []
  | .app _ _ s x => [s, x]
  | .cpy _ d s => [d, s]
  | .mm _ x l => x :: l
  | .fail => []
def xSlot : X → Option Nat
  | .t n => some n
  | .k _ => none
def XOper.slots (o : XOper) : List Nat := o.op.opds.filterMap xSlot ++ (match o.guard with | some (s, _) => [s] | none => [])
def pairOk (ops : List XOper) (d : List Nat) (i : Nat) (a : XOper) (j : Nat) (b : XOper) : Bool :=
  (match a.dst with
   | some t => (i == j || b.dst != some t) && (i == j || !(b.slots.contains t) || (if i < j then (d.getD j 0).testBit i else (d.getD i 0).testBit j))
   | none => true) &&
  (!(decide (i < j) && a.op.cls == 3 && b.op.cls == 3) || (d.getD j 0).testBit i)
def lookOk (ops : List XOper) (i : Nat) : Bool :=
  match ops[i]? with
  | some o =>
    match o.op.looks with
    | .t t => (List.range ops.length).all fun d => decide (d < i) || (match ops[d]? with | some b => b.dst != some t | none => true)
    | .k _ => true
  | none => true
def regOk (ops : List XOper) : Bool :=
  let d := closure ops
  ((List.range ops.length).all fun j =>
    match ops[j]? with
    | some b => (b.after.all fun e => decide (e < j)) && (List.range ops.length).all fun i => match ops[i]? with | some a => pairOk ops d i a j b | none => true
    | none => true) &&
  (chkOf ops).all fun c => lookOk ops c.1
structure RegOk (ops : List XOper) : Prop where
  edge : ∀ (j : Nat) (o : XOper), ops[j]? = some o → ∀ e ∈ o.after, e < j
  dst : ∀ (i j : Nat) (a b : XOper) (t : Nat), ops[i]? = some a → ops[j]? = some b → a.dst = some t → b.dst = some t → i = j
  slot : ∀ (i j : Nat) (a b : XOper) (t : Nat), ops[i]? = some a → ops[j]? = some b → a.dst = some t → t ∈ b.slots → i = j ∨ (i < j ∧ bef ops j i = true) ∨ (j < i ∧ bef ops i j = true)
  wr : ∀ (i j : Nat) (a b : XOper), ops[i]? = some a → ops[j]? = some b → i < j → a.op.cls = 3 → b.op.cls = 3 → bef ops j i = true
  look : ∀ c ∈ chkOf ops, ∀ (o : XOper) (t d : Nat) (b : XOper), ops[c.1]? = some o → o.op.looks = .t t → ops[d]? = some b → b.dst = some t → d < c.1
theorem zhC {ops : List XOper} (h : regOk ops = true) : RegOk ops := by
  simp only [regOk, Bool.and_eq_true, List.all_eq_true, List.mem_range] at h
  obtain ⟨h1, h2⟩ := h
  have lt : ∀ {j o}, ops[j]? = some o → j < ops.length := fun {j o} e => by
    by_cases hj : j < ops.length
    · exact hj
    · rw [List.getElem?_eq_none (by omega)] at e; cases e
  have pr : ∀ i j a b, ops[i]? = some a → ops[j]? = some b → pairOk ops (closure ops) i a j b = true := fun i j a b e1 e2 => by
    have := h1 j (lt e2)
    rw [e2] at this
    simp only [Bool.and_eq_true, List.all_eq_true, List.mem_range] at this
    have := this.2 i (lt e1)
    rwa [e1] at this
  refine ⟨fun j o e e' he' => ?_, fun i j a b t e1 e2 e3 e4 => ?_, fun i j a b t e1 e2 e3 e4 => ?_, fun i j a b e1 e2 e3 e4 e5 => ?_, fun c hc o t d b e1 e2 e3 e4 => ?_⟩
  · have := h1 j (lt e)
    rw [e] at this
    simp only [Bool.and_eq_true, List.all_eq_true, decide_eq_true_eq] at this
    exact this.1 e' he'
  · have := pr i j a b e1 e2
    simp only [pairOk, e3, Bool.and_eq_true, Bool.or_eq_true, beq_iff_eq, bne_iff_ne] at this
    rcases this.1.1 with g | g
    · exact g
    · exact absurd e4 g
  · have := pr i j a b e1 e2
    simp only [pairOk, e3, Bool.and_eq_true, Bool.or_eq_true, beq_iff_eq, Bool.not_eq_true', List.contains_eq_mem, decide_eq_false_iff_not] at this
    rcases this.1.2 with (g | g) | g
    · exact .inl g
    · exact absurd e4 g
    · by_cases hij : i = j
      · exact .inl hij
      · by_cases hlt : i < j
        · rw [if_pos hlt] at g; exact .inr (.inl ⟨hlt, g⟩)
        · rw [if_neg hlt] at g; exact .inr (.inr ⟨by omega, g⟩)
  · have := pr i j a b e1 e2
    simp only [pairOk, Bool.and_eq_true] at this
    have := this.2
    simpa [e3, e4, e5, bef] using this
  · have := h2 c hc
    simp only [lookOk, e1, e2, List.all_eq_true, List.mem_range, Bool.or_eq_true, decide_eq_true_eq] at this
    rcases this d (lt e3) with g | g
    · exact g
    · rw [e3] at g; simp [e4] at g
variable {call : Nat → List AV → Hp → Option (AV × Hp)}
structure Trace (call : Nat → List AV → Hp → Option (AV × Hp)) (ops : List XOper) (fr : Fr) (h : Hp) (frA : Nat → Fr) (hA : Nat → Hp) : Prop where
  fr0 : frA 0 = fr
  h0 : hA 0 = h
  step : ∀ j o, ops[j]? = some o → (o.wanted (frA j) = true ∧ ∃ v, o.op.ev call (frA j) (hA j) = some (v, hA (j + 1)) ∧ frA (j + 1) = (frA j).put o.dst v) ∨
    (o.wanted (frA j) = false ∧ hA (j + 1) = hA j ∧ frA (j + 1) = (frA j).put o.dst undefA)
def consA {α : Type} (a : α) (f : Nat → α) : Nat → α
  | 0 => a
  | n + 1 => f n
theorem ze6 : ∀ {ops : List XOper} {fr fr' : Fr} {h h' : Hp}, evOps call ops fr h = some (fr', h') →
    ∃ frA hA, Trace call ops fr h frA hA ∧ frA ops.length = fr' ∧ hA ops.length = h' ∧ ∃ hs, evOpsT call ops fr h = some (fr', hs) ∧ ∀ j, j ≤ ops.length → hs[j]? = some (hA j)
  | [], fr, fr', h, h', he => by
    simp [evOps] at he
    obtain ⟨rfl, rfl⟩ := he
    exact ⟨fun _ => fr, fun _ => h, ⟨rfl, rfl, fun j o e => by simp at e⟩, rfl, rfl, [h], rfl, fun j hj => by
      have : j = 0 := by simpa using hj
      subst this; rfl⟩
  | o :: os, fr, fr', h, h', he => by
    simp only [evOps] at he
    by_cases hw : o.wanted fr = true
    · rw [if_pos hw] at he
      cases hev : o.op.ev call fr h with
      | none => simp [hev] at he
      | some r =>
        obtain ⟨v, h1⟩ := r
        simp only [hev] at he
        obtain ⟨frA, hA, T, e1, e2, hs, e3, e4⟩ := ze6 he
        refine ⟨consA fr frA, consA h hA, ⟨rfl, rfl, fun j o' e => ?_⟩, e1, e2, h :: hs, ?_, fun j hj => ?_⟩
        · cases j with
          | zero =>
            simp at e; subst e
            exact .inl ⟨hw, v, by simp [consA, T.h0, hev], by simp [consA, T.fr0]⟩
          | succ j => exact T.step j o' (by simpa using e)
        · simp [evOpsT, hw, hev, e3]
        · cases j with
          | zero => rfl
          | succ j => exact e4 j (by simpa using hj)
    · rw [if_neg hw] at he
      obtain ⟨frA, hA, T, e1, e2, hs, e3, e4⟩ := ze6 he
      refine ⟨consA fr frA, consA h hA, ⟨rfl, rfl, fun j o' e => ?_⟩, e1, e2, h :: hs, ?_, fun j hj => ?_⟩
      · cases j with
        | zero =>
          simp at e; subst e
          exact .inr ⟨by simpa [consA] using hw, by simp [consA, T.h0], by simp [consA, T.fr0]⟩
        | succ j => exact T.step j o' (by simpa using e)
      · simp [evOpsT, hw, e3]
      · cases j with
        | zero => rfl
        | succ j => exact e4 j (by simpa using hj)
theorem Fr.put_length (fr : Fr) (d : Option Nat) (v : AV) : (fr.put d v).length = fr.length := by cases d <;> simp [Fr.put]
theorem Fr.put_ne (fr : Fr) {d : Option Nat} (v : AV) {t : Nat} (h : d ≠ some t) : (fr.put d v)[t]? = fr[t]? := by
  cases d with
  | none => rfl
  | some d => simp only [Fr.put]; rw [List.getElem?_set_ne (fun e => h (by rw [e]))]
section
variable {ops : List XOper} {fr : Fr} {h : Hp} {frA : Nat → Fr} {hA : Nat → Hp}
theorem Trace.put (T : Trace call ops fr h frA hA) {j : Nat} {o : XOper} (ho : ops[j]? = some o) : ∃ v, frA (j + 1) = (frA j).put o.dst v := by
  rcases T.step j o ho with ⟨_, v, _, e⟩ | ⟨_, _, e⟩
  · exact ⟨v, e⟩
  · exact ⟨_, e⟩
theorem Trace.length (T : Trace call ops fr h frA hA) : ∀ j, j ≤ ops.length → (frA j).length = fr.length
  | 0, _ => by rw [T.fr0]
  | j + 1, hj => by
    obtain ⟨v, e⟩ := T.put (List.getElem?_eq_getElem (show j < ops.length by omega))
    rw [e, Fr.put_length, T.length j (by omega)]
theorem Trace.keep (T : Trace call ops fr h frA hA) {t i : Nat} : ∀ j, i ≤ j → j ≤ ops.length → (∀ (d : Nat) (o : XOper), i ≤ d → d < j → ops[d]? = some o → o.dst ≠ some t) → (frA j)[t]? = (frA i)[t]?
  | 0, hi, _, _ => by have : i = 0 := by omega
                      rw [this]
  | j + 1, hi, hj, hn => by
    by_cases he : i = j + 1
    · rw [he]
    · have ho := List.getElem?_eq_getElem (show j < ops.length by omega)
      obtain ⟨v, e⟩ := T.put ho
      rw [e, Fr.put_ne _ _ (hn j _ (by omega) (by omega) ho)]
      exact T.keep j (by omega) (by omega) fun d o a b c => hn d o a (by omega) c
theorem Trace.frame (R : RegOk ops) (T : Trace call ops fr h frA hA) {j d : Nat} {o : XOper} {t : Nat} (hj : j ≤ ops.length) (ho : ops[d]? = some o) (hd : o.dst = some t) :
    (frA j)[t]? = if d < j then (frA ops.length)[t]? else fr[t]? := by
  have uniq : ∀ i b, ops[i]? = some b → b.dst = some t → i = d := fun i b e1 e2 => R.dst i d b o t e1 ho e2 hd
  split
  · rename_i hlt
    refine (T.keep ops.length hj (Nat.le_refl _) fun i b h1 h2 h3 h4 => ?_).symm
    have := uniq i b h3 h4; omega
  · rename_i hlt
    rw [← T.fr0]
    refine T.keep j (Nat.zero_le _) hj fun i b h1 h2 h3 h4 => ?_
    have := uniq i b h3 h4; omega
theorem Trace.frame_none (T : Trace call ops fr h frA hA) {j : Nat} {t : Nat} (hj : j ≤ ops.length) (hn : ∀ (d : Nat) (o : XOper), ops[d]? = some o → o.dst ≠ some t) : (frA j)[t]? = fr[t]? := by
  rw [← T.fr0]
  exact T.keep j (Nat.zero_le _) hj fun i b h1 h2 h3 => hn i b h3
theorem Trace.good (G : GoodCall call) (T : Trace call ops fr h frA hA) {i : Nat} : ∀ j, i ≤ j → j ≤ ops.length → HpOk (hA i) (hA j)
  | 0, hi, _ => by have : i = 0 := by omega
                   rw [this]; exact .refl _
  | j + 1, hi, hj => by
    by_cases he : i = j + 1
    · rw [he]; exact .refl _
    · refine (T.good G j (by omega) (by omega)).trans ?_
      rcases T.step j _ (List.getElem?_eq_getElem (show j < ops.length by omega)) with ⟨_, v, e, _⟩ | ⟨_, e, _⟩
      · exact zid G e
      · rw [e]; exact .refl _
end
end Go.Eng
namespace Go.Eng
variable {call : Nat → List AV → Hp → Option (AV × Hp)}
theorem zfs {fr fr' : Fr} : ∀ {l : List X}, (∀ x ∈ l, x.ev fr = x.ev fr') → l.map (X.ev fr) = l.map (X.ev fr')
  | [], _ => rfl
  | x :: l, h => by rw [List.map_cons, List.map_cons, h x (by simp), zfs fun y hy => h y (by simp [hy])]
theorem zeE {fr fr' : Fr} : ∀ {ps : List (Nat × Nat × X)} (z : List AV), (∀ x ∈ ps.map (·.2.2), x.ev fr = x.ev fr') → fillA fr z ps = fillA fr' z ps
  | [], _, _ => rfl
  | (off, size, x) :: ps, z, h => by
    have h1 := h x (by simp)
    simp only [fillA, h1]
    split
    · exact zeE _ fun y hy => h y (by simp at hy ⊢; exact .inr hy)
    · rfl
theorem zf5 {fr fr' : Fr} {o : Option X} (h : ∀ x ∈ oX o, x.ev fr = x.ev fr') : o.map (X.ev fr) = o.map (X.ev fr') := by
  cases o with
  | none => rfl
  | some x => simp [h x (by simp [oX])]
theorem zke {fr fr' : Fr} {o : XO} {h : Hp} (hx : ∀ x ∈ o.opds, x.ev fr = x.ev fr') : o.ev call fr h = o.ev call fr' h := by
  cases o <;> simp only [XO.opds, List.mem_cons, List.mem_append, List.not_mem_nil, or_false, forall_eq_or_imp, forall_eq] at hx <;> simp only [XO.ev]
  case mov => rw [hx]
  case pick => rw [hx.1, hx.2.1, hx.2.2]
  case box => rw [hx]
  case build z ps => rw [zeE _ hx]
  case bsl n sz z ps => rw [zeE _ hx]
  case load => rw [hx]
  case store => rw [hx.1, hx.2]
  case nilck => rw [hx]
  case bin => rw [hx.1, hx.2]
  case eqt => rw [hx.1, hx.2]
  case eqa => rw [hx.1, hx.2]
  case un => rw [hx]
  case cint => rw [hx]
  case cstr => rw [hx]
  case b2s => rw [hx]
  case s2b => rw [hx]
  case mif => rw [hx]
  case mfn => rw [zfs hx]
  case msl => rw [hx.1, hx.2]
  case slstr x lo hi => rw [hx.1, zf5 fun y hy => hx.2 y (.inl hy), zf5 fun y hy => hx.2 y (.inr hy)]
  case slsl z x lo hi mx => rw [hx.1, zf5 fun y hy => hx.2 y (.inl (.inl hy)), zf5 fun y hy => hx.2 y (.inl (.inr hy)), zf5 fun y hy => hx.2 y (.inr hy)]
  case slarr n z x lo hi => rw [hx.1, zf5 fun y hy => hx.2 y (.inl hy), zf5 fun y hy => hx.2 y (.inr hy)]
  case fad => rw [hx]
  case fld => rw [hx]
  case ixa => rw [hx.1, hx.2]
  case ixs => rw [hx.1, hx.2]
  case iag => rw [hx.1, hx.2]
  case istr => rw [hx.1, hx.2]
  case ext => rw [hx]
  case call => rw [zfs hx]
  case callv => rw [hx.1, zfs hx.2]
  case len => rw [hx]
  case lens => rw [hx]
  case app => rw [hx.1, hx.2]
  case cpy => rw [hx.1, hx.2]
  case mm => rw [hx.1, zfs hx.2]
def Sees (o : XO) (fr : Fr) (h g : Hp) : Prop := ∀ n, (o.looks.ev fr).name? = some n → ∀ b, h.m n = some b → ∃ b', g.m n = some b' ∧ b'.v = b.v
theorem zjr {h g : Hp} {n off k : Nat} {l : List AV} (hr : h.rd n off k = some l) (hs : ∀ b, h.m n = some b → ∃ b', g.m n = some b' ∧ b'.v = b.v) : g.rd n off k = some l := by
  unfold Hp.rd at hr ⊢
  cases hb : h.m n with
  | none => simp [hb] at hr
  | some b =>
    obtain ⟨b', e1, e2⟩ := hs b hb
    rw [hb] at hr
    simpa [e1, e2] using hr
theorem zgu {o : XO} {fr : Fr} {h h' : Hp} {v : AV} (hc : o.cls < 3) (he : o.ev call fr h = some (v, h')) :
    (h' = h ∧ ∀ g, g.next = h.next → Sees o fr h g → o.ev call fr g = some (v, g)) ∨
    (o.cls = 1 ∧ ∃ cs, h' = h.push cs ∧ ∀ g, g.next = h.next → o.ev call fr g = some (v, g.push cs)) := by
  have pure0 : ∀ {q : Option AV}, (∀ g, o.ev call fr g = q.map fun x => (x, g)) → h' = h ∧ ∀ g, g.next = h.next → Sees o fr h g → o.ev call fr g = some (v, g) := fun {q} hq => by
    rw [hq h] at he
    cases q with
    | none => simp at he
    | some z =>
      simp at he
      exact ⟨he.2.symm, fun g _ _ => by rw [hq g, he.1]; rfl⟩
  have pureG : (∀ g, o.ev call fr g = ((o.ev call fr ⟨fun _ => none, 0⟩).map (·.1)).map fun x => (x, g)) → h' = h ∧ ∀ g, g.next = h.next → Sees o fr h g → o.ev call fr g = some (v, g) := fun hq => pure0 hq
  cases o <;> simp only [XO.cls] at hc
  case mov x => exact .inl (pure0 (q := some (x.ev fr)) fun g => rfl)
  case new z =>
    simp only [XO.ev] at he
    split at he
    · rename_i hz
      cases he
      exact .inr ⟨rfl, z, rfl, fun g e => by simp only [XO.ev]; rw [if_pos hz, e]⟩
    · cases he
  case box x =>
    simp only [XO.ev] at he
    split at he
    · rename_i hz
      cases he
      exact .inr ⟨rfl, _, rfl, fun g e => by simp only [XO.ev]; rw [if_pos hz, e]⟩
    · cases he
  case bsl n sz z ps =>
    simp only [XO.ev] at he
    split at he
    · rename_i hz
      split at he
      · rename_i l hl
        split at he
        · rename_i hn
          cases he
          exact .inl ⟨rfl, fun g _ _ => by simp only [XO.ev]; rw [if_pos hz]; simp only [hl]; rw [if_pos hn]⟩
        · rename_i hn
          cases he
          exact .inr ⟨rfl, l, rfl, fun g e => by simp only [XO.ev]; rw [if_pos hz]; simp only [hl]; rw [if_neg hn, e]⟩
      · cases he
    · cases he
  case msl z by_ n c =>
    simp only [XO.ev] at he
    split at he
    · rename_i a b ha hb
      split at he
      · rename_i hz
        split at he
        · rename_i h0
          cases he
          exact .inl ⟨rfl, fun g _ _ => by simp only [XO.ev, ha, hb]; rw [if_pos hz, if_pos h0]⟩
        · rename_i h0
          cases he
          exact .inr ⟨rfl, _, rfl, fun g e => by simp only [XO.ev, ha, hb]; rw [if_pos hz, if_neg h0, e]⟩
      · cases he
    · cases he
  case s2b x =>
    simp only [XO.ev] at he
    split at he
    · rename_i l hl
      cases he
      by_cases h0 : l = []
      · left
        simp only [h0, if_true]
        exact ⟨trivial, fun g _ _ => by simp only [XO.ev, hl, h0, if_true]⟩
      · right
        simp only [h0, if_false]
        exact ⟨rfl, _, rfl, fun g e => by simp only [XO.ev, hl, h0, if_false, e]⟩
    · cases he
  case load agg n x =>
    left
    simp only [XO.ev] at he
    split at he
    · rename_i m off hp
      split at he
      · rename_i l hl
        cases hv : pickA agg l with
        | none => simp [hv] at he
        | some z =>
          simp [hv] at he
          refine ⟨he.2.symm, fun g _ hs => ?_⟩
          have := zjr hl (hs m (by simp [XO.looks, hp, AV.name?]))
          simp [XO.ev, hp, this, hv, he.1]
      · cases he
    · cases he
  case b2s x =>
    left
    simp only [XO.ev] at he
    split at he
    · rename_i hp; cases he; exact ⟨rfl, fun g _ _ => by simp [XO.ev, hp]⟩
    · rename_i hp; cases he; exact ⟨rfl, fun g _ _ => by simp [XO.ev, hp]⟩
    · rename_i hp; cases he; exact ⟨rfl, fun g _ _ => by simp [XO.ev, hp]⟩
    · rename_i n off ln c z hp
      split at he
      · rename_i h0; cases he; exact ⟨rfl, fun g _ _ => by simp [XO.ev, hp, h0]⟩
      rename_i h0
      split at he
      · rename_i hz
        split at he
        · rename_i l hl
          cases he
          refine ⟨rfl, fun g _ hs => ?_⟩
          cases hr : h.rd n off ln with
          | none => simp [hr] at hl
          | some cs =>
            have := zjr hr (hs n (by simp [XO.looks, hp, AV.name?, h0]))
            rw [hr] at hl
            simp only [XO.ev, hp, hz, this, hl, if_true, h0, if_false]
        · cases he
      · cases he
    · cases he
  case slarr n z x lo hi =>
    left
    simp only [XO.ev] at he
    split at he
    · rename_i m off hp
      split at he
      · rename_i b hb
        split at he
        · rename_i hl
          cases hv : slA z (.sl m off n n z) (lo.map (X.ev fr)) (hi.map (X.ev fr)) none with
          | none => simp [hv] at he
          | some q =>
            simp [hv] at he
            refine ⟨he.2.symm, fun g _ hs => ?_⟩
            obtain ⟨b', e1, e2⟩ := hs m (by simp [XO.looks, hp, AV.name?]) b hb
            simp [XO.ev, hp, e1, e2, hl, hv, he.1]
        · cases he
      · cases he
    · cases he
  all_goals first
    | (exfalso; revert hc; decide)
    | (left
       refine pureG fun g => ?_
       simp only [XO.ev]
       first
         | rfl
         | (split <;> first | rfl | (simp only [Option.map_map]; rfl) | (split <;> first | rfl | (simp only [Option.map_map]; rfl)))
         | (simp only [Option.map_map]; rfl))
end Go.Eng
namespace Go.Eng
variable {F:Nat} {key:Nat→Option FuncId}
theorem zdb {w w':World} {b:Nat} (h:w'.heap[b]?=w.heap[b]?) (o:Nat):w'.cell? ⟨b,o,none⟩=w.cell? ⟨b,o,none⟩:=by
 simp only[World.cell?,h]
theorem zd2 {w w':World} {b:Nat} (h:w'.heap[b]?=w.heap[b]?) (o:Nat):w'.frozen? ⟨b,o,none⟩=w.frozen? ⟨b,o,none⟩:=by
 simp only[World.frozen?,h]
theorem Holds.move {l l':Loc} {blk:Blk} {a:At} {w w':World} (H:Holds key l blk a w) (hl:l.le l') (hs:w.heap.size≤w'.heap.size) (hb:w'.heap[a.b]?=w.heap[a.b]?):Holds key l' blk a w' where
 lt:=Nat.lt_of_lt_of_le H.lt hs
 len:=H.len
 cell:=fun i h=>by obtain⟨v,h1,h2⟩:=H.cell i h;exact⟨v,by rw[zdb hb];exact h1,h2.mono hl⟩
 scal:=H.scal
 room:=fun hr i hi=>by obtain⟨⟨v,h1⟩,h2⟩:=H.room hr i hi;exact⟨⟨v,by rw[zdb hb];exact h1⟩,by rw[zd2 hb];exact h2⟩
 whole:=fun hw=>by obtain⟨h1,h2,cs,t,fz,h3,h4⟩:=H.whole hw;exact⟨h1,h2,cs,t,fz,by rw[hb];exact h3,h4⟩
theorem Ext.still {l:Loc} {h:Hp} {w w':World} (hh:w'.heap=w.heap) (ho:w'.os=w.os) (ht:w'.tape=w.tape) (hu:w'.output=w.output):Ext l h w l h w' :=
 ⟨l.le_refl,.refl h,fun _ _ e=>.inl e,by rw[hh];exact Nat.le_refl _,ho,ht,hu,fun _ _ _=>by rw[hh]⟩
theorem Sim.still {l:Loc} {h:Hp} {w w':World} (S:Sim key F l h w) (hh:w'.heap=w.heap):Sim key F l h w' :=
 ⟨fun n blk a e1 e2=>(S.holds n blk a e1 e2).move l.le_refl (by rw[hh];exact Nat.le_refl _) (by rw[hh]),S.apart,fun n a e=>by rw[hh];exact S.lt n a e,S.dom,S.wf⟩
def Loc.add (l:Loc) (n:Nat) (a:At):Loc:=fun k=>if k=n then some a else l k
theorem Loc.add_same (l:Loc) (n:Nat) (a:At):l.add n a n=some a:=by simp[Loc.add]
theorem Loc.add_ne (l:Loc) {n k:Nat} (a:At) (h:k≠n):l.add n a k=l k:=by simp[Loc.add,h]
theorem Loc.le_add {l:Loc} {h:Hp} {w:World} (S:Sim key F l h w) (hF:h.next<F) (a:At):l.le (l.add h.next a):=fun n x e=>by
 rw[Loc.add_ne];exact e
 rcases S.dom n x e with g|g<;>omega
theorem zjn {l:Loc} {h:Hp} {w w':World} (S:Sim key F l h w) (hF:h.next<F) (cs:List AV) (n:Nat)
  (hsz:w'.heap.size=w.heap.size+1) (hb:∀b,b<w.heap.size→w'.heap[b]?=w.heap[b]?) (ho:w'.os=w.os) (ht:w'.tape=w.tape) (hu:w'.output=w.output)
  (hn:cs.length≤n) (hs:cs.all AV.scal=true)
  (hc:∀i (hi:i<cs.length),∃v,w'.cell? ⟨w.heap.size,i,none⟩=some v∧Rel key l cs[i] v)
  (hr:∀i,i<n→(∃v,w'.cell? ⟨w.heap.size,i,none⟩=some v)∧w'.frozen? ⟨w.heap.size,i,none⟩=false) :
  Ext l h w (l.add h.next ⟨w.heap.size,0,n,false⟩) (h.push cs) w'∧Sim key F (l.add h.next ⟨w.heap.size,0,n,false⟩) (h.push cs) w':=by
 have hle:=Loc.le_add S hF ⟨w.heap.size,0,n,false⟩
 have old:∀m,m≠h.next→(h.push cs).m m=h.m m:=fun m hm=>by simp[Hp.push,hm]
 refine⟨⟨hle,⟨by simp[Hp.push],fun m hm=>.inl (old m (by omega))⟩,fun m a e=>?_,by omega,ho,ht,hu,fun b hb1 _=>hb b hb1⟩,⟨fun m blk a e1 e2=>?_,fun m blk a m' blk' a' e1 e2 e3 e4 e5 e6=>?_,fun m a e=>?_,fun m a e=>?_,fun m hm=>?_⟩⟩
 ·by_cases hm:m=h.next
  ·subst hm
   rw[Loc.add_same] at e;cases e
   exact .inr ⟨Nat.le_refl _,by simp[Hp.push],.inl (Nat.le_refl _)⟩
  ·rw[Loc.add_ne _ _ hm] at e;exact .inl e
 ·by_cases hm:m=h.next
  ·subst hm
   rw[Loc.add_same] at e2;cases e2
   simp[Hp.push] at e1;subst e1
   refine⟨by show w.heap.size<w'.heap.size;omega,hn,fun i hi=>?_,fun i hi=>?_,fun _ i hi=>?_,fun q=>by cases q⟩
   ·obtain⟨v,h1,h2⟩:=hc i hi;exact⟨v,by simpa using h1,h2.mono hle⟩
   ·rw[List.all_eq_true] at hs;exact hs _ (List.getElem_mem _)
   ·simpa using hr i hi
  ·rw[Loc.add_ne _ _ hm] at e2
   rw[old m hm] at e1
   exact(S.holds m blk a e1 e2).move hle (by omega) (hb _ (S.lt m a e2))
 ·by_cases hm:m=h.next
  ·by_cases hm':m'=h.next
   ·rw[hm,hm']
   ·exfalso
    subst hm;rw[Loc.add_same] at e2;cases e2
    rw[Loc.add_ne _ _ hm'] at e5
    have:=S.lt m' a' e5;simp at e6;omega
  ·rw[Loc.add_ne _ _ hm] at e2
   by_cases hm':m'=h.next
   ·exfalso
    subst hm';rw[Loc.add_same] at e5;cases e5
    have:=S.lt m a e2;simp at e6;omega
   ·rw[Loc.add_ne _ _ hm'] at e5
    rw[old m hm] at e1;rw[old m' hm'] at e4
    exact S.apart m blk a m' blk' a' e1 e2 e3 e4 e5 e6
 ·by_cases hm:m=h.next
  ·subst hm;rw[Loc.add_same] at e;cases e;simp;omega
  ·rw[Loc.add_ne _ _ hm] at e;have:=S.lt m a e;omega
 ·by_cases hm:m=h.next
  ·subst hm;simp[Hp.push]
  ·rw[Loc.add_ne _ _ hm] at e;have:=S.dom m a e;simp[Hp.push];omega
 ·have hm':h.next+1≤m:=hm
  rw[old m (by omega)];exact S.wf m (by omega)
theorem zcz {l:Loc} {h:Hp} {w:World} (S:Sim key F l h w) (hF:h.next<F) (cs:List AV) (ws:Array Value) (el:TypeId) (hn:cs.length≤ws.size) (hs:cs.all AV.scal=true)
  (R:RelL key l cs (ws.toList.take cs.length)) :
  Ext l h w (l.add h.next ⟨w.heap.size,0,ws.size,false⟩) (h.push cs) (w.alloc (.cells ws el))∧Sim key F (l.add h.next ⟨w.heap.size,0,ws.size,false⟩) (h.push cs) (w.alloc (.cells ws el)):=by
 refine zjn S hF cs ws.size (by simp) (fun b hb=>?_) rfl rfl rfl hn hs (fun i hi=>?_) (fun i hi=>?_)
 ·exact Go.RowKit.Below.heap_alloc _ _ _ hb
 ·have h2:=R.2 i hi (by rw[←R.1];exact hi)
  have hi':i<ws.size:=by omega
  refine⟨ws[i],by simp[hi'],?_⟩
  simpa using h2
 ·exact⟨⟨ws[i],by simp[hi]⟩,by simp⟩
theorem za1 (b:Nat):∀(vs:List Value) (o:Nat) (w:World) (k:Nat),k≠b→(w.setCells b o vs).heap[k]?=w.heap[k]?
 | [],_,_,_,_=>rfl
 | v::r,o,w,k,hk=>by
  rw[World.setCells,za1 b r (o+1) _ k hk]
  simp only[World.setCell,Array.getElem?_modify]
  rw[if_neg (by simpa using Ne.symm hk)]
theorem zav (b:Nat):∀(vs:List Value) (o:Nat) (w:World),(w.setCells b o vs).heap.size=w.heap.size
 | [],_,_=>rfl
 | v::r,o,w=>by rw[World.setCells,zav b r];simp
theorem zba (b:Nat):∀(vs:List Value) (o:Nat) (w:World),(w.setCells b o vs).os=w.os∧(w.setCells b o vs).tape=w.tape∧(w.setCells b o vs).output=w.output
 | [],_,_=>⟨rfl,rfl,rfl⟩
 | v::r,o,w=>by rw[World.setCells];have:=zba b r (o+1) (w.setCell ⟨b,o,none⟩ v);exact this
theorem zl3 {l:Loc} {h:Hp} {w:World} (S:Sim key F l h w) {n:Nat} {blk:Blk} {a:At} (e1:h.m n=some blk) (e2:l n=some a) (hr:blk.rw=true)
  (cs:List AV) (ws:List Value) (off:Nat) (hlen:off+cs.length≤blk.v.length) (hs:cs.all AV.scal=true) (R:RelL key l cs ws) :
  Ext l h w l (h.upd n { blk with v:=splice blk.v off cs,ver:=blk.ver+1 }) (w.setCells a.b (a.o+off) ws) ∧
  Sim key F l (h.upd n { blk with v:=splice blk.v off cs,ver:=blk.ver+1 }) (w.setCells a.b (a.o+off) ws):=by
 have H:=S.holds n blk a e1 e2
 have hsz:(splice blk.v off cs).length=blk.v.length:=by simp[splice];omega
 obtain⟨s1,s2,s3⟩:=zba a.b ws (a.o+off) w
 have hcell:∀j,j<ws.length→(w.cell? ⟨a.b,a.o+off+j,none⟩).isSome=true:=fun j hj=>by
  obtain⟨⟨v,hv⟩,_⟩:=H.room hr (off+j) (by have:=H.len;have:=R.1;omega)
  rw[Nat.add_assoc,hv];rfl
 have hdisj:∀m blk' a',h.m m=some blk'→l m=some a'→m≠n→a'.b≠a.b:=fun m blk' a' f1 f2 hm heq=>hm (S.apart n blk a m blk' a' e1 e2 hr f1 f2 heq.symm).symm
 refine⟨⟨l.le_refl,⟨Nat.le_refl _,fun m hm=>?_⟩,fun m x e=>.inl e,by rw[zav];exact Nat.le_refl _,s1,s2,s3,fun b hb hne=>?_⟩,⟨fun m blk' a' f1 f2=>?_,fun m b1 x m' b2 x' f1 f2 f3 f4 f5 f6=>?_,fun m x e=>by rw[zav];exact S.lt m x e,fun m x e=>S.dom m x e,fun m hm=>?_⟩⟩
 ·by_cases hmn:m=n
  ·subst hmn
   exact .inr (.inr ⟨blk,{ blk with v:=splice blk.v off cs,ver:=blk.ver+1 },e1,by simp[Hp.upd],by simp,fun z=>z,hsz⟩)
  ·exact .inl (by simp[Hp.upd,hmn])
 ·rw[za1]
  exact fun heq=>hne n blk a e1 hr e2 heq.symm
 ·by_cases hmn:m=n
  ·subst hmn
   rw[e2] at f2;cases f2
   simp[Hp.upd] at f1;subst f1
   refine⟨by rw[zav];exact H.lt,by simp only;rw[hsz];exact H.len,fun i hi=>?_,fun i hi=>?_,fun _ i hi=>?_,fun q=>by have:=(H.whole q).1;rw[hr] at this;cases this⟩
   ·simp only at hi
    rw[hsz] at hi
    by_cases h1:i<off
    ·obtain⟨v,hv1,hv2⟩:=H.cell i hi
     refine⟨v,?_,?_⟩
     ·rw[World.cell?_setCells_out];exact hv1
      intro _ _;left;simp;omega
     ·have:(splice blk.v off cs)[i]'(by rw[hsz];exact hi)=blk.v[i]:=by
       simp only[splice]
       rw[List.getElem_append_left (by simp;omega),List.getElem_append_left (by simp;omega)]
       simp
      simp only[this];exact hv2
    ·by_cases h2:i<off+cs.length
     ·have hj:i-off<ws.length:=by rw[←R.1];omega
      refine⟨ws[i-off],?_,?_⟩
      ·have:=World.cell?_setCells_in a.b ws (a.o+off) w hcell (i-off) hj
       rwa [show a.o+off+(i-off)=a.o+i by omega] at this
      ·have:(splice blk.v off cs)[i]'(by rw[hsz];exact hi)=cs[i-off]'(by omega):=by
        simp only[splice]
        rw[List.getElem_append_left (by simp;omega),List.getElem_append_right (by simp;omega)]
        congr 1
        simp;omega
       simp only[this];exact R.2 _ _ _
     ·obtain⟨v,hv1,hv2⟩:=H.cell i hi
      refine⟨v,?_,?_⟩
      ·rw[World.cell?_setCells_out];exact hv1
       intro _ _;right;have:=R.1;simp;omega
      ·have:(splice blk.v off cs)[i]'(by rw[hsz];exact hi)=blk.v[i]:=by
        simp only[splice]
        rw[List.getElem_append_right (by simp;omega)]
        simp only[List.getElem_drop]
        congr 1
        simp;omega
       simp only[this];exact hv2
   ·have hall:∀x∈splice blk.v off cs,x.scal=true:=fun x hx=>by
     simp only[splice,List.mem_append] at hx
     rcases hx with (hx|hx)|hx
     ·obtain⟨j,hj,e⟩:=List.mem_iff_getElem.1 (List.mem_of_mem_take hx)
      rw[←e];exact H.scal j hj
     ·rw[List.all_eq_true] at hs;exact hs _ hx
     ·obtain⟨j,hj,e⟩:=List.mem_iff_getElem.1 (List.mem_of_mem_drop hx)
      rw[←e];exact H.scal j hj
    exact hall _ (List.getElem_mem _)
   ·obtain⟨⟨v,h1⟩,h2⟩:=H.room hr i hi
    refine⟨?_,by rw[World.frozen?_setCells];exact h2⟩
    by_cases hin:off≤i∧i<off+ws.length
    ·have:=World.cell?_setCells_in a.b ws (a.o+off) w hcell (i-off) (by omega)
     rw[show a.o+off+(i-off)=a.o+i by omega] at this
     exact⟨_,this⟩
    ·refine⟨v,?_⟩
     rw[World.cell?_setCells_out];exact h1
     intro _ _;simp;omega
  ·simp[Hp.upd,hmn] at f1
   exact(S.holds m blk' a' f1 f2).move l.le_refl (by rw[zav];exact Nat.le_refl _) (za1 _ _ _ _ _ (hdisj m blk' a' f1 f2 hmn))
 ·have back:∀k b,(h.upd n { blk with v:=splice blk.v off cs,ver:=blk.ver+1 }).m k=some b→∃b0,h.m k=some b0∧(b.rw=true→b0.rw=true):=fun k b e=>by
   by_cases hk:k=n
   ·subst hk;exact⟨blk,e1,fun _=>hr⟩
   ·simp[Hp.upd,hk] at e;exact⟨b,e,fun z=>z⟩
  obtain⟨y1,g1,g2⟩:=back m b1 f1
  obtain⟨y2,g3,_⟩:=back m' b2 f4
  exact S.apart m y1 x m' y2 x' g1 f2 (g2 f3) g3 f5 f6
 ·have hm':h.next≤m:=hm
  have hmn:m≠n:=fun e=>by rw[e] at hm';rw[S.wf n hm'] at e1;cases e1
  simp[Hp.upd,hmn];exact S.wf m hm'
end Go.Eng
namespace Go.Eng
variable {key:Nat→Option FuncId} {F F1:Nat} {l l' l0:Loc} {G G' H H' h0:Hp} {w w' w0:World}
def Part (l:Loc) (H G:Hp):Prop:=∀n b a,H.m n=some b→l n=some a→∃b',G.m n=some b'∧b'.v=b.v∧(b.rw=true→b'.rw=true)
theorem zoH (S:Sim key F l G w) (E:Ext l H w l' H' w') (S1:Sim key F1 l' H' w') (hH:Part l H G)
  (hG:∀n a blk,l' n=some a→G'.m n=some blk→(H'.m n=some blk∧(l n=none∨n<H.next))∨(l n=some a∧G.m n=some blk∧∀b,H.m n=some b→b.rw=false))
  (dom:∀n a,l' n=some a→n<G'.next∨F≤n) (wf:∀n,G'.next≤n→G'.m n=none):Sim key F l' G' w':=by
 have own:∀n a blk,l' n=some a→H'.m n=some blk→(l n=none∨n<H.next) →
   (l n=none∧(w.heap.size≤a.b∨∃m b1 a1,H.m m=some b1∧b1.rw=true∧l m=some a1∧a1.b=a.b))∨(l n=some a∧∃b,H.m n=some b∧(blk.rw=true→b.rw=true)):=by
  intro n a blk e1 e2 e3
  rcases E.new n a e1 with f|⟨f1,f2,f3⟩
  ·right
   refine⟨f,?_⟩
   have hlt:n<H.next:=by
    rcases e3 with g|g
    ·rw[f] at g;cases g
    ·exact g
   rcases E.hle.blk n hlt with g|g|⟨x,y,g1,g2,_,g4,_⟩
   ·exact⟨blk,by rw[←g];exact e2,id⟩
   ·rw[g] at e2;cases e2
   ·rw[g2] at e2;cases e2
    exact⟨x,g1,g4⟩
  ·left
   refine⟨?_,f3⟩
   rcases e3 with g|g
   ·exact g
   ·omega
 refine⟨fun n blk a e1 e2=>?_,fun n blk a n' blk' a' e1 e2 e3 e4 e5 e6=>?_,S1.lt,dom,wf⟩
 ·rcases hG n a blk e2 e1 with⟨f1,_⟩|⟨f1,f2,f3⟩
  ·exact S1.holds n blk a f1 e2
  ·refine(S.holds n blk a f2 f1).move E.le E.size (E.frame a.b (S.lt n a f1) fun m b1 a1 g1 g2 g3 g4=>?_)
   obtain⟨b',k1,_,k3⟩:=hH m b1 a1 g1 g3
   have:=S.apart m b' a1 n blk a k1 g3 (k3 g2) f2 f1 g4
   subst this
   rw[f3 b1 g1] at g2;cases g2
 ·rcases hG n a blk e2 e1 with⟨f1,fo⟩|⟨f1,f2,f3⟩
  ·rcases hG n' a' blk' e5 e4 with⟨g1,go⟩|⟨g1,g2,g3⟩
   ·exact S1.apart n blk a n' blk' a' f1 e2 e3 g1 e5 e6
   ·rcases own n a blk e2 f1 fo with⟨_,k⟩|⟨k1,b,k2,k3⟩
    ·rcases k with k|⟨m,b1,a1,m1,m2,m3,m4⟩
     ·have:=S.lt n' a' g1;omega
     ·obtain⟨b',p1,_,p3⟩:=hH m b1 a1 m1 m3
      have:=S.apart m b' a1 n' blk' a' p1 m3 (p3 m2) g2 g1 (m4.trans e6)
      subst this
      rw[g3 b1 m1] at m2;cases m2
    ·obtain⟨b',p1,_,p3⟩:=hH n b a k2 k1
     exact S.apart n b' a n' blk' a' p1 k1 (p3 (k3 e3)) g2 g1 e6
  ·rcases hG n' a' blk' e5 e4 with⟨g1,go⟩|⟨g1,g2,g3⟩
   ·rcases own n' a' blk' e5 g1 go with⟨_,k⟩|⟨k1,b,k2,k3⟩
    ·rcases k with k|⟨m,b1,a1,m1,m2,m3,m4⟩
     ·have:=S.lt n a f1;omega
     ·obtain⟨b',p1,_,p3⟩:=hH m b1 a1 m1 m3
      have:=S.apart m b' a1 n blk a p1 m3 (p3 m2) f2 f1 (m4.trans e6.symm)
      subst this
      rw[f3 b1 m1] at m2;cases m2
    ·obtain⟨b',p1,_,_⟩:=hH n' b a' k2 k1
     exact S.apart n blk a n' b' a' f2 f1 e3 p1 k1 e6
   ·exact S.apart n blk a n' blk' a' f2 f1 e3 g2 g1 e6
theorem zuw (hd:∀n a,l0 n=some a→n<h0.next∨G.m n=none) (A:Ext l0 h0 w0 l G w) (E:Ext l H w l' H' w') (hH:Part l H G)
  (hle:HpLe h0 G') (hn:∀n,H.next≤n→n<H'.next→h0.next≤n∧n<G'.next) (hg:G.next≤G'.next):Ext l0 h0 w0 l' G' w':=by
 have key1:∀m blk a,H.m m=some blk→blk.rw=true→l m=some a→w0.heap.size≤a.b∨∃m' blk' a',h0.m m'=some blk'∧blk'.rw=true∧l0 m'=some a'∧a'.b=a.b:=by
  intro m blk a e1 e2 e3
  obtain⟨b',p1,_,p3⟩:=hH m blk a e1 e3
  have e2':=p3 e2
  rcases A.new m a e3 with f|⟨_,_,f⟩
  ·have hm:m<h0.next:=(hd m a f).resolve_right (by rw[p1];simp)
   rcases A.hle.blk m hm with g|g|⟨x,y,g1,g2,_,g4,_⟩
   ·exact .inr ⟨m,b',a,by rw[←g];exact p1,e2',f,rfl⟩
   ·rw[g] at p1;cases p1
   ·rw[g2] at p1;cases p1
    exact .inr ⟨m,x,a,g1,g4 e2',f,rfl⟩
  ·exact f
 refine⟨Loc.le_trans A.le E.le,hle,fun n a e=>?_,Nat.le_trans A.size E.size,E.os.trans A.os,E.tape.trans A.tape,E.output.trans A.output,fun b hb hne=>?_⟩
 ·rcases E.new n a e with f|⟨f1,f2,f3⟩
  ·rcases A.new n a f with g|⟨g1,g2,g3⟩
   ·exact .inl g
   ·exact .inr ⟨g1,Nat.lt_of_lt_of_le g2 hg,g3⟩
  ·obtain⟨q1,q2⟩:=hn n f1 f2
   refine .inr ⟨q1,q2,?_⟩
   rcases f3 with f3|⟨m,blk,a',e1,e2,e3,e4⟩
   ·exact .inl (Nat.le_trans A.size f3)
   ·rw[←e4];exact key1 m blk a' e1 e2 e3
 ·rw[E.frame b (Nat.lt_of_lt_of_le hb A.size) ?_,A.frame b hb hne]
  intro m blk a e1 e2 e3 heq
  rcases key1 m blk a e1 e2 e3 with g|⟨m',blk',a',g1,g2,g3,g4⟩
  ·omega
  ·exact hne m' blk' a' g1 g2 g3 (g4.trans heq)
end Go.Eng
namespace Go.Eng
variable {call : Nat → List AV → Hp → Option (AV × Hp)}
section
variable {ops : List XOper} {fr : Fr} {h : Hp} {frA : Nat → Fr} {hA : Nat → Hp}
theorem zap {o : XOper} {j : Nat} (e : ops[j]? = some o) : j < ops.length := by
  by_cases hj : j < ops.length
  · exact hj
  · rw [List.getElem?_eq_none (by omega)] at e; cases e
theorem Trace.next_le (GC : GoodCall call) (T : Trace call ops fr h frA hA) {i j : Nat} (hi : i ≤ j) (hj : j ≤ ops.length) : (hA i).next ≤ (hA j).next := (T.good GC j hi hj).le.next
theorem zgj (hm : ∀ i j, i ≤ j → j ≤ ops.length → (hA i).next ≤ (hA j).next) (n : Nat) : ∀ N, N ≤ ops.length → n < (hA N).next → ∃ b, b ≤ N ∧ ∀ i, i ≤ N → (n < (hA i).next ↔ b ≤ i)
  | 0, _, h => ⟨0, Nat.le_refl _, fun i hi => by have : i = 0 := by omega
                                                 subst this; simp [h]⟩
  | N + 1, hN, h => by
    by_cases hlt : n < (hA N).next
    · obtain ⟨b, hb, k⟩ := zgj hm n N (by omega) hlt
      refine ⟨b, by omega, fun i hi => ?_⟩
      by_cases he : i = N + 1
      · subst he; simp [h]; omega
      · exact k i (by omega)
    · refine ⟨N + 1, Nat.le_refl _, fun i hi => ?_⟩
      by_cases he : i = N + 1
      · subst he; simp [h]
      · have := hm i N (by omega) (by omega)
        constructor <;> intro g <;> omega
def Born (ops : List XOper) (hA : Nat → Hp) (brn : Nat → Nat) : Prop := ∀ n, n < (hA ops.length).next → brn n ≤ ops.length ∧ ∀ i, i ≤ ops.length → (n < (hA i).next ↔ brn n ≤ i)
theorem zma (GC : GoodCall call) (T : Trace call ops fr h frA hA) : ∃ brn, Born ops hA brn := by
  have := fun n => zgj (ops := ops) (hA := hA) (fun i j hi hj => T.next_le GC hi hj) n ops.length (Nat.le_refl _)
  exact ⟨fun n => if hn : n < (hA ops.length).next then Classical.choose (this n hn) else 0, fun n hn => by
    simp only [dif_pos hn]
    exact Classical.choose_spec (this n hn)⟩
def ghost (ops : List XOper) (hA : Nat → Hp) (brn : Nat → Nat) (q : Nat) : Hp :=
  ⟨fun n => if n < (hA ops.length).next then (hA (max q (brn n))).m n else none, (hA ops.length).next⟩
variable {brn : Nat → Nat}
theorem zbO (q : Nat) : ∀ n, (ghost ops hA brn q).next ≤ n → (ghost ops hA brn q).m n = none := fun n hn => by
  have hn' : (hA ops.length).next ≤ n := hn
  simp only [ghost]; rw [if_neg (by omega)]
theorem zcG (GC : GoodCall call) (T : Trace call ops fr h frA hA) (B : Born ops hA brn) {j n : Nat} (hj : j ≤ ops.length) (hn : n < (hA j).next) : (ghost ops hA brn j).m n = (hA j).m n := by
  have hN : n < (hA ops.length).next := Nat.lt_of_lt_of_le hn (T.next_le GC hj (Nat.le_refl _))
  simp only [ghost]; rw [if_pos hN]
  have := ((B n hN).2 j hj).1 hn
  rw [Nat.max_eq_left this]
theorem zfm (B : Born ops hA brn) {q n : Nat} (hN : n < (hA ops.length).next) (hq : q ≤ brn n) : (ghost ops hA brn q).m n = (hA (brn n)).m n := by
  simp only [ghost]; rw [if_pos hN, Nat.max_eq_right hq]
theorem zik (wf : ∀ n, (hA ops.length).next ≤ n → (hA ops.length).m n = none) (B : Born ops hA brn) : ghost ops hA brn ops.length = hA ops.length := by
  have : (ghost ops hA brn ops.length).m = (hA ops.length).m := by
    funext n
    simp only [ghost]
    split
    · rename_i hN
      rw [Nat.max_eq_left (B n hN).1]
    · rename_i hN
      exact (wf n (by omega)).symm
  calc ghost ops hA brn ops.length = ⟨(ghost ops hA brn ops.length).m, (hA ops.length).next⟩ := rfl
    _ = ⟨(hA ops.length).m, (hA ops.length).next⟩ := by rw [this]
    _ = hA ops.length := rfl
theorem zeG (GC : GoodCall call) (T : Trace call ops fr h frA hA) (B : Born ops hA brn) {q : Nat} (hq : q ≤ ops.length) : HpLe h (ghost ops hA brn q) := by
  have g0 := T.good GC q (Nat.zero_le _) hq
  rw [T.h0] at g0
  refine ⟨?_, fun n hn => ?_⟩
  · have := T.next_le GC (Nat.zero_le _) (Nat.le_refl ops.length)
    rw [T.h0] at this; exact this
  · rw [zcG GC T B hq (Nat.lt_of_lt_of_le hn g0.le.next)]
    exact g0.le.blk n hn
theorem Trace.still (T : Trace call ops fr h frA hA) {k n : Nat} {o : XOper} (ho : ops[k]? = some o) (hc : o.op.cls < 3) (hn : n < (hA k).next) : (hA (k + 1)).m n = (hA k).m n := by
  rcases T.step k o ho with ⟨_, v, e, _⟩ | ⟨_, e, _⟩
  · rcases zgu hc e with ⟨e1, _⟩ | ⟨_, cs, e1, _⟩
    · rw [e1]
    · rw [e1]; simp only [Hp.push]; rw [if_neg (by omega)]
  · rw [e]
theorem Trace.stable (GC : GoodCall call) (T : Trace call ops fr h frA hA) {i n : Nat} : ∀ j, i ≤ j → j ≤ ops.length → n < (hA i).next →
    (∀ k o, i ≤ k → k < j → ops[k]? = some o → o.op.cls = 3 → n < (hA k).next → (hA (k + 1)).m n = (hA k).m n) → (hA j).m n = (hA i).m n
  | 0, hi, _, _, _ => by have : i = 0 := by omega
                         rw [this]
  | j + 1, hi, hj, hn, hk => by
    by_cases he : i = j + 1
    · rw [he]
    · have hn' : n < (hA j).next := Nat.lt_of_lt_of_le hn (T.next_le GC (by omega) (by omega))
      rw [← T.stable GC j (by omega) (by omega) hn fun k o a b c => hk k o a (by omega) c]
      have ho := List.getElem?_eq_getElem (show j < ops.length by omega)
      by_cases hc : (ops[j]'(by omega)).op.cls < 3
      · exact T.still ho hc hn'
      · refine hk j _ (by omega) (by omega) ho ?_ hn'
        have : ∀ o : XO, o.cls ≤ 3 := fun o => by cases o <;> simp [XO.cls]
        have := this (ops[j]'(by omega)).op
        omega
theorem zhh (GC : GoodCall call) (T : Trace call ops fr h frA hA) {k n : Nat} (hk : k < ops.length) (hn : n < (hA k).next) (hv : verEq (some n) (hA k) (hA (k + 1)) = true) : (hA (k + 1)).m n = (hA k).m n := by
  simp only [verEq, Bool.or_eq_true, decide_eq_true_eq, beq_iff_eq] at hv
  rcases hv with hv | hv
  · omega
  rcases (T.good GC (k + 1) (by omega) (by omega) (i := k)).le.blk n hn with g | g | ⟨b, b', g1, g2, g3, _⟩
  · exact g
  · rw [g] at hv ⊢
    cases hb : (hA k).m n with
    | none => rfl
    | some b => rw [hb] at hv; simp at hv
  · rw [g1, g2] at hv
    simp at hv; omega
theorem zfT {i j : Nat} {a b : XOper} (e1 : ops[i]? = some a) (e2 : ops[j]? = some b) (hb : b.op.cls = 3)
    (h : (a.op.cls = 2 ∧ j < i ∧ bef ops i j = false) ∨ ((a.op.cls = 1 ∨ a.op.cls = 2) ∧ i < j ∧ bef ops j i = false)) : (i, j) ∈ chkOf ops := by
  have l1 := zap e1
  have l2 := zap e2
  simp only [chkOf, List.mem_flatMap, List.mem_range]
  rcases h with ⟨h1, h2, h3⟩ | ⟨h1, h2, h3⟩
  · refine ⟨i, l1, j, h2, ?_⟩
    rw [e1, e2]
    simp only [bef] at h3
    simp only [List.getD_eq_getElem?_getD] at h3
    simp [h3, hb, h1]
  · refine ⟨j, l2, i, h2, ?_⟩
    rw [e1, e2]
    simp only [bef] at h3
    simp only [List.getD_eq_getElem?_getD] at h3
    simp [h3, hb, h1]
def Checked' (ops : List XOper) (frN : Fr) (hA : Nat → Hp) : Prop := ∀ c ∈ chkOf ops, ∀ o, ops[c.1]? = some o → c.2 < ops.length → verEq (o.op.nameAt frN (hA c.1).next) (hA c.2) (hA (c.2 + 1)) = true
theorem zhn {fr' : Fr} {h' : Hp} (he : evDrw call ops (chkOf ops) fr h = some (fr', h')) {hs : List Hp} (e : evOpsT call ops fr h = some (fr', hs)) (hh : ∀ j, j ≤ ops.length → hs[j]? = some (hA j)) : Checked' ops fr' hA := by
  intro c hc o ho hlt
  unfold evDrw at he
  split at he
  · rename_i h0; rw [h0] at hc; simp at hc
  · rw [e] at he
    simp only at he
    split at he
    · rename_i hall
      have := List.all_eq_true.1 hall c hc
      simp only [chkOne, ho, hh c.1 (Nat.le_of_lt (zap ho)), hh c.2 (by omega), hh (c.2 + 1) (by omega)] at this
      exact this
    · cases he
end
end Go.Eng
namespace Go.Eng
variable {F:Nat} {key:Nat→Option FuncId}
theorem zmJ {l:Loc} {h:Hp} {w:World} (S:Sim key F l h w) (n:Nat):Ext l h w l (h.kill n) w∧Sim key F l (h.kill n) w:=by
 have back:∀m blk,(h.kill n).m m=some blk→h.m m=some blk:=fun m blk e=>by
  by_cases hm:m=n
  ·simp[Hp.kill,hm] at e
  ·simpa [Hp.kill,hm] using e
 refine⟨⟨l.le_refl,⟨Nat.le_refl _,fun m _=>?_⟩,fun m a e=>.inl e,Nat.le_refl _,rfl,rfl,rfl,fun _ _ _=>rfl⟩,⟨fun m blk a e1 e2=>S.holds m blk a (back _ _ e1) e2,fun m blk a m' blk' a' e1 e2 e3 e4 e5 e6=>S.apart m blk a m' blk' a' (back _ _ e1) e2 e3 (back _ _ e4) e5 e6,S.lt,S.dom,fun m hm=>?_⟩⟩
 ·by_cases hm:m=n
  ·exact .inr (.inl (by simp[Hp.kill,hm]))
  ·exact .inl (by simp[Hp.kill,hm])
 ·simp only[Hp.kill]
  split
  ·rfl
  ·exact S.wf m hm
theorem zhs {l:Loc} {h:Hp} {w:World} (S:Sim key F l h w) (hF:h.next<F) {n:Nat} {blk:Blk} {a:At} (e1:h.m n=some blk) (e2:l n=some a) (hr:blk.rw=true)
  (cs:List AV) (ws:List Value) (off k:Nat) (hk:off+k≤blk.v.length) (hroom:off+k+ws.length≤a.n) (hs:cs.all AV.scal=true) (R:RelL key l cs ws) :
  Ext l h w (l.add h.next ⟨a.b,a.o+off,a.n-off,false⟩) ((h.kill n).push ((blk.v.drop off).take k++cs)) (w.setCells a.b (a.o+off+k) ws) ∧
  Sim key F (l.add h.next ⟨a.b,a.o+off,a.n-off,false⟩) ((h.kill n).push ((blk.v.drop off).take k++cs)) (w.setCells a.b (a.o+off+k) ws):=by
 have H:=S.holds n blk a e1 e2
 have hnx:n<h.next:=by
  apply Nat.lt_of_not_le;intro hge;rw[S.wf n hge] at e1;cases e1
 have hle:=Loc.le_add S hF ⟨a.b,a.o+off,a.n-off,false⟩
 obtain⟨s1,s2,s3⟩:=zba a.b ws (a.o+off+k) w
 have hcell:∀j,j<ws.length→(w.cell? ⟨a.b,a.o+off+k+j,none⟩).isSome=true:=fun j hj=>by
  obtain⟨⟨v,hv⟩,_⟩:=H.room hr (off+k+j) (by omega)
  rw[show a.o+off+k+j=a.o+(off+k+j) by omega,hv];rfl
 have old:∀m,m≠h.next→m≠n→((h.kill n).push ((blk.v.drop off).take k++cs)).m m=h.m m:=fun m hm hne=>by
  have hm2:m≠(h.kill n).next:=hm
  show (if m=(h.kill n).next then _ else (h.kill n).m m)=h.m m
  rw[if_neg hm2]
  simp[Hp.kill,hne]
 have gone:((h.kill n).push ((blk.v.drop off).take k++cs)).m n=none:=by
  simp[Hp.push,Hp.kill];omega
 have hlen0:((blk.v.drop off).take k).length=k:=by simp;omega
 have hdisj:∀m blk' a',h.m m=some blk'→l m=some a'→m≠n→a'.b≠a.b:=fun m blk' a' f1 f2 hm heq=>hm (S.apart n blk a m blk' a' e1 e2 hr f1 f2 heq.symm).symm
 refine⟨⟨hle,⟨by simp[Hp.push,Hp.kill],fun m hm=>?_⟩,fun m x e=>?_,by rw[zav];exact Nat.le_refl _,s1,s2,s3,fun b hb hne=>?_⟩,⟨fun m blk' a' f1 f2=>?_,fun m b1 x m' b2 x' f1 f2 f3 f4 f5 f6=>?_,fun m x e=>?_,fun m x e=>?_,fun m hm=>?_⟩⟩
 ·by_cases hmn:m=n
  ·subst hmn;exact .inr (.inl gone)
  ·exact .inl (old m (by omega) hmn)
 ·by_cases hm:m=h.next
  ·subst hm;rw[Loc.add_same] at e;cases e
   exact .inr ⟨Nat.le_refl _,by simp[Hp.push,Hp.kill],.inr ⟨n,blk,a,e1,hr,e2,rfl⟩⟩
  ·rw[Loc.add_ne _ _ hm] at e;exact .inl e
 ·rw[za1]
  exact fun heq=>hne n blk a e1 hr e2 heq.symm
 ·by_cases hm:m=h.next
  ·subst hm
   rw[Loc.add_same] at f2;cases f2
   simp[Hp.push,Hp.kill] at f1;subst f1
   refine⟨by rw[zav];exact H.lt,by simp only[List.length_append,hlen0];rw[R.1];omega,fun i hi=>?_,fun i hi=>?_,fun _ i hi=>?_,fun q=>by cases q⟩
   ·simp only[List.length_append,hlen0] at hi
    by_cases h1:i<k
    ·obtain⟨v,hv1,hv2⟩:=H.cell (off+i) (by omega)
     refine⟨v,?_,?_⟩
     ·show (w.setCells a.b (a.o+off+k) ws).cell? ⟨a.b,a.o+off+i,none⟩=some v
      rw[World.cell?_setCells_out,show a.o+off+i=a.o+(off+i) by omega]
      ·exact hv1
      ·intro _ _;left;show a.o+off+i<a.o+off+k;omega
     ·have:(List.take k (List.drop off blk.v)++cs)[i]'(by simp only[List.length_append,hlen0];exact hi)=blk.v[off+i]:=by
       rw[List.getElem_append_left (by rw[hlen0];exact h1)]
       simp
      simp only[this];exact hv2.mono hle
    ·have hj:i-k<ws.length:=by have:=R.1;omega
     refine⟨ws[i-k],?_,?_⟩
     ·have:=World.cell?_setCells_in a.b ws (a.o+off+k) w hcell (i-k) hj
      rwa [show a.o+off+k+(i-k)=a.o+off+i by omega] at this
     ·have:(List.take k (List.drop off blk.v)++cs)[i]'(by simp only[List.length_append,hlen0];exact hi)=cs[i-k]'(by omega):=by
       rw[List.getElem_append_right (by rw[hlen0];omega)]
       congr 1
       rw[hlen0]
      simp only[this];exact(R.2 _ _ _).mono hle
   ·have hall:∀x∈(blk.v.drop off).take k++cs,x.scal=true:=fun x hx=>by
     rw[List.mem_append] at hx
     rcases hx with hx|hx
     ·obtain⟨j,hj,e⟩:=List.mem_iff_getElem.1 (List.mem_of_mem_drop (List.mem_of_mem_take hx))
      rw[←e];exact H.scal j hj
     ·rw[List.all_eq_true] at hs;exact hs _ hx
    exact hall _ (List.getElem_mem _)
   ·have hi':i<a.n-off:=hi
    obtain⟨⟨v,h1⟩,h2⟩:=H.room hr (off+i) (by omega)
    rw[show a.o+(off+i)=a.o+off+i by omega] at h1 h2
    refine⟨?_,by rw[World.frozen?_setCells];exact h2⟩
    by_cases hin:k≤i∧i<k+ws.length
    ·have:=World.cell?_setCells_in a.b ws (a.o+off+k) w hcell (i-k) (by omega)
     rw[show a.o+off+k+(i-k)=a.o+off+i by omega] at this
     exact⟨_,this⟩
    ·refine⟨v,?_⟩
     show (w.setCells a.b (a.o+off+k) ws).cell? ⟨a.b,a.o+off+i,none⟩=some v
     rw[World.cell?_setCells_out]
     ·exact h1
     ·intro _ _;show a.o+off+i<a.o+off+k∨a.o+off+k+ws.length≤a.o+off+i;omega
  ·rw[Loc.add_ne _ _ hm] at f2
   have hmn:m≠n:=fun heq=>by rw[heq,gone] at f1;cases f1
   rw[old m hm hmn] at f1
   exact(S.holds m blk' a' f1 f2).move hle (by rw[zav];exact Nat.le_refl _) (za1 _ _ _ _ _ (hdisj m blk' a' f1 f2 hmn))
 ·have pt:∀q b y,((h.kill n).push ((blk.v.drop off).take k++cs)).m q=some b→(l.add h.next ⟨a.b,a.o+off,a.n-off,false⟩) q=some y →
    (q=h.next∧y.b=a.b)∨(q≠h.next∧q≠n∧h.m q=some b∧l q=some y):=fun q b y g1 g2=>by
   by_cases hq:q=h.next
   ·subst hq;rw[Loc.add_same] at g2;cases g2;exact .inl ⟨rfl,rfl⟩
   ·rw[Loc.add_ne _ _ hq] at g2
    have hqn:q≠n:=fun heq=>by rw[heq,gone] at g1;cases g1
    rw[old q hq hqn] at g1
    exact .inr ⟨hq,hqn,g1,g2⟩
  rcases pt m b1 x f1 f2 with⟨g1,g2⟩|⟨g1,g2,g3,g4⟩
  ·rcases pt m' b2 x' f4 f5 with⟨k1,k2⟩|⟨k1,k2,k3,k4⟩
   ·rw[g1,k1]
   ·exact absurd (f6.symm.trans g2) (hdisj m' b2 x' k3 k4 k2)
  ·rcases pt m' b2 x' f4 f5 with⟨k1,k2⟩|⟨k1,k2,k3,k4⟩
   ·exact absurd (f6.trans k2) (hdisj m b1 x g3 g4 g2)
   ·exact S.apart m b1 x m' b2 x' g3 g4 f3 k3 k4 f6
 ·rw[zav]
  by_cases hm:m=h.next
  ·subst hm;rw[Loc.add_same] at e;cases e;exact H.lt
  ·rw[Loc.add_ne _ _ hm] at e;exact S.lt m x e
 ·by_cases hm:m=h.next
  ·subst hm;simp[Hp.push,Hp.kill]
  ·rw[Loc.add_ne _ _ hm] at e;have:=S.dom m x e;simp[Hp.push,Hp.kill];omega
 ·have hm':h.next+1≤m:=hm
  by_cases hmn:m=n
  ·rw[hmn];exact gone
  ·rw[old m (by omega) hmn];exact S.wf m (by omega)
end Go.Eng
namespace Go.Eng
variable {F:Nat} {key:Nat→Option FuncId} {P:Program} {T:Tab}
structure TabOk (key:Nat→Option FuncId) (T:Tab) (l:Loc):Prop where
 f:∀f k,T.fkey f=some k→key k=some f
 g:∀g n,T.gkey g=some n→∃m,l n=some ⟨g,0,m,true⟩
theorem TabOk.mono {l l':Loc} (h:TabOk key T l) (hl:l.le l'):TabOk key T l' :=
 ⟨h.f,fun g n e=>by obtain⟨m,hm⟩:=h.g g n e;exact⟨m,hl _ _ hm⟩⟩
def RelF (key:Nat→Option FuncId) (l:Loc) (fr:Fr) (tmps:Array Value):Prop:=RelL key l fr tmps.toList
theorem RelF.mono {l l':Loc} (hl:l.le l') {fr:Fr} {tmps:Array Value} (h:RelF key l fr tmps):RelF key l' fr tmps:=RelL.mono hl h
theorem zbm {l:Loc}:Rel key l undefA undef:=.tu rfl (fun i h=>by simp at h)
theorem RelL.get {l:Loc} {vs:List AV} {ws:List Value} (h:RelL key l vs ws) (n:Nat):Rel key l (vs.getD n undefA) (ws.getD n undef):=by
 by_cases hn:n<vs.length
 ·have hn':n<ws.length:=by rw[←h.1];exact hn
  simp only[List.getD,List.getElem?_eq_getElem hn,List.getElem?_eq_getElem hn',Option.getD_some]
  exact h.2 n hn hn'
 ·have hn':¬n<ws.length:=by rw[←h.1];exact hn
  simp only[List.getD,List.getElem?_eq_none (Nat.le_of_not_lt hn),List.getElem?_eq_none (Nat.le_of_not_lt hn'),Option.getD_none]
  exact zbm
theorem RelF.get {l:Loc} {fr:Fr} {tmps:Array Value} (h:RelF key l fr tmps) (n:Nat):Rel key l (fr.getD n undefA) (tmps.getD n undef):=by
 have:=RelL.get h n
 rwa [show tmps.toList.getD n undef=tmps.getD n undef by simp[List.getD,Array.getD_eq_getD_getElem?]] at this
theorem RelF.put {l:Loc} {fr:Fr} {a:Act} (h:RelF key l fr a.tmps) (d:Option Nat) {v:AV} {w:Value} (hv:Rel key l v w):RelF key l (fr.put d v) (a.put d w).tmps:=by
 cases d with
 | none=>exact h
 | some d =>
  refine⟨by simpa [Fr.put,Act.put] using h.1,fun i h1 h2=>?_⟩
  simp only[Fr.put,Act.put,Array.toList_setIfInBounds] at h1 h2 ⊢
  simp only[List.length_set] at h1 h2
  rw[List.getElem_set,List.getElem_set]
  by_cases hd:d=i
  ·simp only[hd,if_true];exact hv
  ·simp only[hd,if_false];exact h.2 i h1 h2
theorem zes {l:Loc} {v:Value} {a:AV} (h:ofCell v=some a):Rel key l a v:=by
 unfold ofCell at h
 split at h<;>first
  | (cases h;constructor;done)
  | (cases h;done)
theorem zgd {v:Value} {a:AV} (h:ofCell v=some a):a.scal=true:=by
 unfold ofCell at h
 split at h<;>first
  | (cases h;rfl)
  | (cases h;done)
theorem zbl {l:Loc}:∀{vs:List Value} {asq:List AV},ofCells vs=some asq→RelL key l asq vs
 | [],asq,h=>by simp[ofCells] at h;subst h;exact .nil
 | v::vs,asq,h=>by
  simp only[ofCells] at h
  split at h
  ·rename_i a as' h1 h2;cases h;exact .cons (zes h1) (zbl h2)
  ·cases h
theorem zcc:∀{vs:List Value} {asq:List AV},ofCells vs=some asq→asq.all AV.scal=true
 | [],asq,h=>by simp[ofCells] at h;subst h;rfl
 | v::vs,asq,h=>by
  simp only[ofCells] at h
  split at h
  ·rename_i a as' h1 h2;cases h;simp[zgd h1,zcc h2]
  ·cases h
theorem zjs {l:Loc} {v:Value} {a:AV} (h:ofVal v=some a):Rel key l a v:=by
 unfold ofVal at h
 split at h
 ·rename_i cs
  cases hc:ofCells cs.toList with
  | none=>simp[hc] at h
  | some asq=>simp[hc] at h;subst h;simpa using (zbl (key:=key) (l:=l) hc).ag
 ·exact zes h
theorem zal {l:Loc} (TO:TabOk key T l) {fr:Fr} {a:Act} (R:RelF key l fr a.tmps) {x:Operand} {y:X} (h:cX T x=some y):Rel key l (y.ev fr) (a.eval x):=by
 cases x with
 | tmp t=>simp[cX] at h;subst h;exact R.get t
 | const v =>
  cases hv:ofVal v with
  | none=>simp[cX,hv] at h
  | some b=>simp[cX,hv] at h;subst h;exact zjs hv
 | global g =>
  cases hv:T.gkey g with
  | none=>simp[cX,hv] at h
  | some b =>
   simp[cX,hv] at h;subst h
   obtain⟨m,hm⟩:=TO.g g b hv
   show Rel key l (.p b 0) (.pointer (some ⟨g,0+0,none⟩))
   exact Rel.p hm
 | func f =>
  cases hv:T.fkey f with
  | none=>simp[cX,hv] at h
  | some b=>simp[cX,hv] at h;subst h;exact .fn (TO.f f b hv) rfl (fun i h=>by simp at h)
theorem zdU {l:Loc} (TO:TabOk key T l) {fr:Fr} {a:Act} (R:RelF key l fr a.tmps):∀{xs:List Operand} {ys:List X},cXs T xs=some ys→RelL key l (ys.map (X.ev fr)) (xs.map a.eval)
 | [],ys,h=>by simp[cXs] at h;subst h;exact .nil
 | x::xs,ys,h=>by
  simp only[cXs] at h
  split at h
  ·rename_i y ys' h1 h2;cases h;exact .cons (zal TO R h1) (zdU TO R h2)
  ·cases h
def OpRes (F:Nat) (P:Program) (key:Nat→Option FuncId) (a:Act) (o:Oper) (l:Loc) (h:Hp) (w:World) (v:AV) (h':Hp):Prop :=
 ∃l' val w',((execOp a.eval o).run P w=.ok (.value val) w'∨((execOp a.eval o).run P w=.ok .skip w'∧val=undef))∧Ext l h w l' h' w'∧Sim key F l' h' w'∧Rel key l' v val
def OpCall (P:Program) (key:Nat→Option FuncId) (call:Nat→List AV→Hp→Option (AV×Hp)) (a:Act) (o:Oper) (l:Loc) (h:Hp) (w:World) (v:AV) (h':Hp):Prop :=
 ∃g vs f avs,(execOp a.eval o).run P w=.ok (.enter g vs) w∧key f=some g∧RelL key l avs vs.toList∧call f avs h=some (v,h')
theorem OpRes.pure {a:Act} {o:Oper} {l:Loc} {h:Hp} {w:World} {v:AV} (S:Sim key F l h w) {val:Value} (he:(execOp a.eval o).run P w=.ok (.value val) w) (R:Rel key l v val):OpRes F P key a o l h w v h :=
 ⟨l,val,w,.inl he,.refl _ _ _,S,R⟩
end Go.Eng
namespace Go.Eng
variable {F : Nat} {key : Nat → Option FuncId} {P : Program} {T : Tab} {call : Nat → List AV → Hp → Option (AV × Hp)} {l : Loc} {fr : Fr} {a : Act} {h h' : Hp} {w : World} {o : Oper} {v : AV}
theorem zdV {t : TypeId} {n : Nat} (hs : szOf P t = some n) : ∃ i, P.info? t = some i ∧ i.size = n := by
  unfold szOf at hs
  cases hi : P.info? t with
  | none => simp [hi] at hs
  | some i => exact ⟨i, rfl, by simpa [hi] using hs⟩
theorem zaq {t : TypeId} {n : Nat} (hs : szOf P t = some n) (w : World) : (sizeOf t).run P w = .ok n w := by
  obtain ⟨i, hi, rfl⟩ := zdV hs
  simp [sizeOf, typeInfo, hi]
theorem zbI {t : TypeId} {g : Bool} (hs : aggOf P t = some g) (w : World) : (isAgg t).run P w = .ok g w := by
  unfold aggOf at hs
  unfold isAgg
  split at hs
  · rename_i d hd; cases hs; simp [run_underlying hd]
  · rename_i d hd; cases hs; simp [run_underlying hd]
  · rename_i d hn1 hn2 hd
    cases hs
    simp only [Sem.run_bind, run_underlying hd, Result.andThen_ok]
    cases d <;> first | rfl | (exact absurd rfl (hn1 _)) | (exact absurd rfl (hn2 _ _))
  · cases hs
theorem ziK {x : Operand} {y : XO} (TO : TabOk key T l) (R : RelF key l fr a.tmps) (S : Sim key F l h w) (ho : o.op = .move x ∨ o.op = .assign x)
    (hc : (cX T x).map XO.mov = some y) (he : y.ev call fr h = some (v, h')) : OpRes F P key a o l h w v h' := by
  cases hx : cX T x with
  | none => simp [hx] at hc
  | some z =>
    simp [hx] at hc; subst hc
    simp [XO.ev] at he; obtain ⟨rfl, rfl⟩ := he
    refine OpRes.pure S (val := a.eval x) ?_ (zal TO R hx)
    rcases ho with ho | ho <;> simp [execOp, ho]
theorem zm3 {c x1 x2 : Operand} {y : XO} (TO : TabOk key T l) (R : RelF key l fr a.tmps) (S : Sim key F l h w) (ho : o.op = .pick c x1 x2)
    (hc : cOp P T o.op = some y) (he : y.ev call fr h = some (v, h')) : OpRes F P key a o l h w v h' := by
  rw [ho] at hc
  simp only [cOp] at hc
  split at hc
  · rename_i c' a' b' e1 e2 e3
    cases hc
    have r1 := zal TO R e1
    simp only [XO.ev] at he
    split at he
    · rename_i bv hb
      rw [hb] at r1
      cases he
      generalize hq : a.eval c = q at r1
      cases r1
      cases bv with
      | true => exact OpRes.pure S (val := a.eval x1) (by simp [execOp, ho, hq, asBool]) (by simpa using zal TO R e2)
      | false => exact OpRes.pure S (val := a.eval x2) (by simp [execOp, ho, hq, asBool]) (by simpa using zal TO R e3)
    · cases he
  · cases hc
theorem zky {x : Operand} {y : XO} (TO : TabOk key T l) (R : RelF key l fr a.tmps) (S : Sim key F l h w) (ho : o.op = .nilCheck x)
    (hc : cOp P T o.op = some y) (he : y.ev call fr h = some (v, h')) : OpRes F P key a o l h w v h' := by
  rw [ho] at hc
  simp only [cOp] at hc
  cases hx : cX T x with
  | none => simp [hx] at hc
  | some z =>
    simp [hx] at hc; subst hc
    have r := zal TO R hx
    simp only [XO.ev] at he
    split at he
    · rename_i m off hz
      rw [hz] at r; cases he
      generalize hq : a.eval x = q at r
      cases r with
      | p hp => exact OpRes.pure S (by simp [execOp, ho, hq]) (.p hp)
    · rename_i f c hz
      rw [hz] at r; cases he
      generalize hq : a.eval x = q at r
      cases r with
      | fn h1 h2 h3 => exact OpRes.pure S (by simp [execOp, ho, hq]) (.fn h1 h2 h3)
    · cases he
theorem zcx (x : ByteArray) : x.toList = x.data.toList := ByteArray.toList_eq x
theorem zmE {k : IntKind} {x y : Int} {op : BinOp} {z : AV} {t : TypeId} (h : intBin op k x y = some z) (w : World) :
    ∃ val, (binOp op t (.int k x) (.int k y)).run P w = .ok val w ∧ Rel key l z val := by
  cases op <;> simp only [intBin] at h
  case quo => split at h <;> (first | (cases h; done) | (rename_i hne; cases h; exact ⟨_, by simp only [binOp, Op.intDiv, hne, ne_eq, not_true_eq_false, if_false]; rfl, .i _ _⟩))
  case rem => split at h <;> (first | (cases h; done) | (rename_i hne; cases h; exact ⟨_, by simp only [binOp, Op.intDiv, hne, ne_eq, not_true_eq_false, if_false]; rfl, .i _ _⟩))
  all_goals first
    | (cases h; done)
    | (cases h; exact ⟨_, by simp only [binOp, ne_eq, not_true_eq_false, if_false]; rfl, .i _ _⟩)
    | (cases h; exact ⟨_, by simp only [binOp, ne_eq, not_true_eq_false, if_false]; rfl, .b _⟩)
theorem zfG {k k' : IntKind} {x y : Int} {op : BinOp} {z : AV} {t : TypeId} (h : intShift op k x y = some z) (hs : op = .shl ∨ op = .shr) (w : World) :
    ∃ val, (binOp op t (.int k x) (.int k' y)).run P w = .ok val w ∧ Rel key l z val := by
  unfold intShift at h
  split at h
  · cases h
  · rename_i hy
    rcases hs with rfl | rfl <;> (cases h; exact ⟨_, by simp only [binOp, Op.shift, hy, if_false]; rfl, .i _ _⟩)
theorem zmV {k k' : IntKind} {x y : Int} {op : BinOp} {z : AV} {t : TypeId} (h : numBin op k k' x y = some z) (w : World) :
    ∃ val, (binOp op t (.int k x) (.int k' y)).run P w = .ok val w ∧ Rel key l z val := by
  unfold numBin at h
  split at h
  · exact zfG h (.inl rfl) w
  · exact zfG h (.inr rfl) w
  · split at h
    · rename_i hk; subst hk; exact zmE h w
    · cases h
theorem zrt : IntKind.i64.max = 9223372036854775807 := rfl
theorem znH {x y : ByteArray} {op : BinOp} {z : AV} {t : TypeId} (h : strBin op x.data.toList y.data.toList = some z) (w : World) :
    ∃ val, (binOp op t (.string x) (.string y)).run P w = .ok val w ∧ Rel key l z val := by
  cases op <;> simp only [strBin] at h
  case add =>
    split at h
    · rename_i hle
      cases h
      have hle' : ¬ ((x.size + y.size : Nat) : Int) > IntKind.i64.max := by
        have h1 : x.data.toList.length = x.size := Array.length_toList
        have h2 : y.data.toList.length = y.size := Array.length_toList
        rw [zrt]; omega
      refine ⟨.string (x ++ y), by simp only [binOp, Op.stringOp, hle', if_false]; rfl, ?_⟩
      have := Rel.s (key := key) (l := l) (x ++ y)
      rwa [show (x ++ y).data.toList = x.data.toList ++ y.data.toList by simp] at this
    · cases h
  all_goals first
    | (cases h; done)
    | (cases h; exact ⟨_, by simp only [binOp, Op.stringOp, zcx]; rfl, .b _⟩)
theorem zcu (op : BinOp) (t : TypeId) (x y : Operand) (va vb : Value) (h1 : va ≠ .nilIface ∨ vb ≠ .nilIface) (h2 : ∀ c, va ≠ .agg c) : (eqGuard op t x y va vb).run P w = .ok () w := by
  cases op <;> first
    | rfl
    | (cases va <;> first
        | rfl
        | (exact absurd rfl (h2 _))
        | (cases vb <;> first | rfl | (exact absurd rfl (h1.resolve_left (by simp)))))
def eqShape : Value → Bool
  | .bool _ | .nilIface | .iface _ _ | .pointer _ | .slice _ _ _ => true
  | _ => false
theorem zok {op : BinOp} {t : TypeId} {va vb : Value} {b : Bool} (ho : op = .eql ∨ op = .neq) (hv : eqShape va = true)
    (he : (Op.equal t va vb).run P w = .ok b w) : (binOp op t va vb).run P w = .ok (.bool (if (isNeq op) then !b else b)) w := by
  have e1 : binOp .eql t va vb = (do pure (.bool (← Op.equal t va vb))) := by
    cases va <;> first | (simp [eqShape] at hv; done) | (cases vb <;> rfl)
  have e2 : binOp .neq t va vb = (do pure (.bool (!(← Op.equal t va vb)))) := by
    cases va <;> first | (simp [eqShape] at hv; done) | (cases vb <;> rfl)
  rcases ho with rfl | rfl
  · rw [e1]; simp [he, isNeq]
  · rw [e2]; simp [he, isNeq]
theorem ziI {bop : BinOp} {t yt : TypeId} {x1 x2 : Operand} {x y : X} (TO : TabOk key T l) (R : RelF key l fr a.tmps) (S : Sim key F l h w) (ho : o.op = .binOp bop t x1 x2 yt)
    (e1 : cX T x1 = some x) (e2 : cX T x2 = some y) (he : (XO.bin bop x y).ev call fr h = some (v, h')) : OpRes F P key a o l h w v h' := by
  have r1 := zal TO R e1
  have r2 := zal TO R e2
  simp only [XO.ev] at he
  cases hb : binA bop (x.ev fr) (y.ev fr) with
  | none => simp [hb] at he
  | some z =>
    simp [hb] at he; obtain ⟨rfl, rfl⟩ := he
    generalize x.ev fr = A at *
    generalize y.ev fr = B at *
    generalize hva : a.eval x1 = va at *
    generalize hvb : a.eval x2 = vb at *
    have fin : (∃ val, (binOp bop t va vb).run P w = .ok val w ∧ Rel key l z val) → (eqGuard bop t x1 x2 va vb).run P w = .ok () w → OpRes F P key a o l h w z h := fun ⟨val, h2, h3⟩ h1 =>
      OpRes.pure S (val := val) (by simp [execOp, ho, hva, hvb, h1, h2]) h3
    unfold binA at hb
    split at hb
    · cases r1; cases r2
      exact fin (zmV hb w) (zcu _ _ _ _ _ _ (.inl (by simp)) (by simp))
    · cases r1; cases r2
      exact fin (znH hb w) (zcu _ _ _ _ _ _ (.inl (by simp)) (by simp))
    · cases hb
theorem zia (d : Nat) {t : TypeId} (hu : P.underlying t = some .bool) (x y : Bool) : (Op.equalIn (d + 1) t (.bool x) (.bool y)).run P w = .ok (x == y) w := by
  simp [Op.equalIn, run_underlying hu]
theorem zfg (d : Nat) {t e : TypeId} (hu : P.underlying t = some (.pointer e)) (y : Option Addr) : (Op.equalIn (d + 1) t (.pointer none) (.pointer y)).run P w = .ok y.isNone w := by
  simp [Op.equalIn, run_underlying hu]
theorem zib (d : Nat) {t e : TypeId} (hu : P.underlying t = some (.pointer e)) (x : Addr) : (Op.equalIn (d + 1) t (.pointer (some x)) (.pointer none)).run P w = .ok false w := by
  simp [Op.equalIn, run_underlying hu]
theorem zic (d : Nat) {t e : TypeId} {n : Nat} (hu : P.underlying t = some (.pointer e)) (hn : szOf P e = some n) (h0 : n ≠ 0) (x y : Addr) (hb : x.block = y.block) :
    (Op.equalIn (d + 1) t (.pointer (some x)) (.pointer (some y))).run P w = .ok (x == y) w := by
  simp [Op.equalIn, run_underlying hu, zaq hn, h0, sameAddr, hb]
theorem zfW (d : Nat) {t : TypeId} {ms} (hu : P.underlying t = some (.interface ms)) (x y : Value) (b : Bool)
    (hxy : (x = .nilIface ∧ y = .nilIface ∧ b = true) ∨ (∃ u z, x = .nilIface ∧ y = .iface u z ∧ b = false) ∨ (∃ u z, y = .nilIface ∧ x = .iface u z ∧ b = false)) : (Op.equalIn (d + 1) t x y).run P w = .ok b w := by
  rcases hxy with ⟨rfl, rfl, rfl⟩ | ⟨u, z, rfl, rfl, rfl⟩ | ⟨u, z, rfl, rfl, rfl⟩ <;> simp [Op.equalIn, run_underlying hu]
theorem zkb (d : Nat) {t e : TypeId} (hu : P.underlying t = some (.slice e)) : (Op.equalIn (d + 1) t (.slice none 0 0) (.slice none 0 0)).run P w = .ok true w := by
  simp [Op.equalIn, run_underlying hu]
theorem zkc (d : Nat) {t e : TypeId} (hu : P.underlying t = some (.slice e)) (x : Addr) (n c : Nat) : (Op.equalIn (d + 1) t (.slice (some x) n c) (.slice none 0 0)).run P w = .ok false w := by
  simp [Op.equalIn, run_underlying hu]
def eqTypes (P : Program) (c : Nat) (t : TypeId) (x y : Operand) : Prop :=
  (c = 0 ∧ P.underlying t = some .bool) ∨ (c = 1 ∧ ∃ e n, P.underlying t = some (.pointer e) ∧ szOf P e = some n ∧ n ≠ 0) ∨
  (c = 2 ∧ ∃ ms, P.underlying t = some (.interface ms) ∧ (Region.isConst x || Region.isConst y) = true) ∨
  (c = 3 ∧ ∃ e, P.underlying t = some (.slice e) ∧ y = .const (.slice none 0 0))
theorem zgL {bop : BinOp} {c : Nat} {t yt : TypeId} {x1 x2 : Operand} {x y : X} (TO : TabOk key T l) (R : RelF key l fr a.tmps) (S : Sim key F l h w) (ho : o.op = .binOp bop t x1 x2 yt)
    (e1 : cX T x1 = some x) (e2 : cX T x2 = some y) (hop : bop = .eql ∨ bop = .neq) (ht : eqTypes P c t x1 x2) (he : (XO.eqt (isNeq bop) c x y).ev call fr h = some (v, h')) : OpRes F P key a o l h w v h' := by
  have r1 := zal TO R e1
  have r2 := zal TO R e2
  simp only [XO.ev] at he
  cases hb : eqTA c (x.ev fr) (y.ev fr) with
  | none => simp [hb] at he
  | some z =>
    simp [hb] at he; obtain ⟨rfl, rfl⟩ := he
    generalize x.ev fr = A at *
    generalize y.ev fr = B at *
    generalize hva : a.eval x1 = va at *
    generalize hvb : a.eval x2 = vb at *
    have fin : eqShape va = true → (Op.equal t va vb).run P w = .ok z w → (eqGuard bop t x1 x2 va vb).run P w = .ok () w → OpRes F P key a o l h w (.b (if (isNeq bop) then !z else z)) h := fun hs h2 h1 =>
      OpRes.pure S (val := .bool (if (isNeq bop) then !z else z)) (by have hx := zok hop hs h2; simp only [execOp, ho, hva, hvb, Sem.run_bind, h1, Result.andThen_ok, hx, Sem.run_pure]) (.b _)
    have gp : va ≠ .nilIface ∨ vb ≠ .nilIface → (∀ c, va ≠ .agg c) → (eqGuard bop t x1 x2 va vb).run P w = .ok () w := fun a b => zcu _ _ _ _ _ _ a b
    unfold eqTA at hb
    split at hb
    · cases hb; cases r1; cases r2
      rcases ht with ⟨_, hu⟩ | ⟨h1, _⟩ | ⟨h1, _⟩ | ⟨h1, _⟩ <;> first | (cases h1; done) | skip
      exact fin rfl (zia 9999 hu _ _) (gp (.inl (by simp)) (by simp))
    · cases hb; cases r1; cases r2
      rcases ht with ⟨h1, _⟩ | ⟨_, e, n, hu, hn, h0⟩ | ⟨h1, _⟩ | ⟨h1, _⟩ <;> first | (cases h1; done) | skip
      exact fin rfl (zfg 9999 hu _) (gp (.inl (by simp)) (by simp))
    · cases hb; cases r1; cases r2
      rcases ht with ⟨h1, _⟩ | ⟨_, e, n, hu, hn, h0⟩ | ⟨h1, _⟩ | ⟨h1, _⟩ <;> first | (cases h1; done) | skip
      exact fin rfl (zib 9999 hu _) (gp (.inl (by simp)) (by simp))
    · cases hb; cases r1; cases r2
      rcases ht with ⟨h1, _⟩ | ⟨_, e, n, hu, hn, h0⟩ | ⟨h1, _⟩ | ⟨h1, _⟩ <;> first | (cases h1; done) | skip
      exact fin rfl (zfg 9999 hu _) (gp (.inl (by simp)) (by simp))
    · split at hb
      · rename_i n1 o1 n2 o2 hn
        subst hn; cases hb
        cases r1 with
        | p ha =>
          cases r2 with
          | p hb' =>
            rw [ha] at hb'; cases hb'
            rcases ht with ⟨h1, _⟩ | ⟨_, e, n, hu, hn, h0⟩ | ⟨h1, _⟩ | ⟨h1, _⟩ <;> first | (cases h1; done) | skip
            refine fin rfl ?_ (gp (.inl (by simp)) (by simp))
            have hE : ∀ x y : Addr, x.block = y.block → (Op.equal t (.pointer (some x)) (.pointer (some y))).run P w = .ok (x == y) w := fun x y hb => zic 9999 hu hn h0 x y hb
            refine (hE _ _ ?_).trans ?_
            · rfl
            congr 1
            rw [Bool.eq_iff_iff]
            simp
      · cases hb
    · cases hb; cases r1; cases r2
      rcases ht with ⟨h1, _⟩ | ⟨h1, _⟩ | ⟨_, ms, hu, hk⟩ | ⟨h1, _⟩ <;> first | (cases h1; done) | skip
      refine fin rfl (zfW 9999 hu _ _ _ (.inl ⟨rfl, rfl, rfl⟩)) ?_
      rcases hop with rfl | rfl <;> cases x1 <;> cases x2 <;> first | (simp [Region.isConst] at hk; done) | rfl
    · cases hb; cases r1; cases r2
      rcases ht with ⟨h1, _⟩ | ⟨h1, _⟩ | ⟨_, ms, hu, hk⟩ | ⟨h1, _⟩ <;> first | (cases h1; done) | skip
      exact fin rfl (zfW 9999 hu _ _ _ (.inr (.inr ⟨_, _, rfl, rfl, rfl⟩))) (gp (.inl (by simp)) (by simp))
    · cases hb; cases r1; cases r2
      rcases ht with ⟨h1, _⟩ | ⟨h1, _⟩ | ⟨_, ms, hu, hk⟩ | ⟨h1, _⟩ <;> first | (cases h1; done) | skip
      exact fin rfl (zfW 9999 hu _ _ _ (.inr (.inl ⟨_, _, rfl, rfl, rfl⟩))) (gp (.inr (by simp)) (by simp))
    · cases hb
      rcases ht with ⟨h1, _⟩ | ⟨h1, _⟩ | ⟨h1, _⟩ | ⟨_, e, hu, rfl⟩ <;> first | (cases h1; done) | skip
      obtain rfl : Value.slice none 0 0 = vb := hvb
      cases r1
      exact fin rfl (zkb 9999 hu) (gp (.inl (by simp)) (by simp))
    all_goals first
      | (cases hb; done)
      | (cases hb
         rcases ht with ⟨h1, _⟩ | ⟨h1, _⟩ | ⟨h1, _⟩ | ⟨_, e, hu, rfl⟩ <;> first | (cases h1; done) | skip
         obtain rfl : Value.slice none 0 0 = vb := hvb
         cases r1
         exact fin rfl (zkc 9999 hu _ _ _) (gp (.inl (by simp)) (by simp)))
end Go.Eng
namespace Go.Eng
variable {F:Nat} {key:Nat→Option FuncId} {P:Program} {T:Tab} {call:Nat→List AV→Hp→Option (AV×Hp)} {l:Loc} {fr:Fr} {a:Act} {h h':Hp} {w:World} {o:Oper} {v:AV}
theorem zrA {uop:UnOp} {t:TypeId} {x1:Operand} {x:X} (TO:TabOk key T l) (R:RelF key l fr a.tmps) (S:Sim key F l h w) (ho:o.op=.unOp uop t x1)
  (e1:cX T x1=some x) (he:(XO.un uop x).ev call fr h=some (v,h')):OpRes F P key a o l h w v h':=by
 have r1:=zal TO R e1
 simp only[XO.ev] at he
 cases hb:unA uop (x.ev fr) with
 | none=>simp[hb] at he
 | some z =>
  simp[hb] at he;obtain⟨rfl,rfl⟩:=he
  generalize x.ev fr=A at *
  generalize hva:a.eval x1=va at *
  unfold unA at hb
  split at hb
  ·cases hb;cases r1
   exact OpRes.pure S (by simp only[execOp,ho,hva,Op.unary];rfl) (.i _ _)
  ·cases hb;cases r1
   exact OpRes.pure S (by simp only[execOp,ho,hva,Op.unary];rfl) (.i _ _)
  ·cases hb;cases r1
   exact OpRes.pure S (by simp only[execOp,ho,hva,Op.unary];rfl) (.b _)
  ·cases hb
theorem zmY {s d:TypeId} {k k':IntKind} {x1:Operand} {x:X} (TO:TabOk key T l) (R:RelF key l fr a.tmps) (S:Sim key F l h w) (ho:o.op=.convert s d x1)
  (hs:P.underlying s=some (.int k')) (hd:P.underlying d=some (.int k)) (e1:cX T x1=some x) (he:(XO.cint k x).ev call fr h=some (v,h')):OpRes F P key a o l h w v h':=by
 have r1:=zal TO R e1
 simp only[XO.ev] at he
 generalize x.ev fr=A at *
 generalize hva:a.eval x1=va at *
 split at he
 ·cases he;cases r1
  exact OpRes.pure S (by simp[execOp,ho,hva,convert,run_underlying hs,run_underlying hd,Conv.intToInt]) (.i _ _)
 ·cases he
theorem zmZ {s d:TypeId} {x1:Operand} {x:X} (TO:TabOk key T l) (R:RelF key l fr a.tmps) (S:Sim key F l h w) (ho:o.op=.convert s d x1)
  (hs:P.underlying s=some .string) (hd:P.underlying d=some .string) (e1:cX T x1=some x) (he:(XO.cstr x).ev call fr h=some (v,h')):OpRes F P key a o l h w v h':=by
 have r1:=zal TO R e1
 simp only[XO.ev] at he
 generalize x.ev fr=A at *
 generalize hva:a.eval x1=va at *
 split at he
 ·cases he;cases r1
  exact OpRes.pure S (by simp[execOp,ho,hva,convert,run_underlying hs,run_underlying hd]) (.s _)
 ·cases he
theorem zoZ {t:TypeId} {d:TypeDesc} {x1:Operand} {x:X} (TO:TabOk key T l) (R:RelF key l fr a.tmps) (S:Sim key F l h w) (ho:o.op=.makeInterface t x1)
  (hu:P.underlying t=some d) (hd:∀ms,d ≠ .interface ms) (e1:cX T x1=some x) (he:(XO.mif t x).ev call fr h=some (v,h')):OpRes F P key a o l h w v h':=by
 have r1:=zal TO R e1
 simp only[XO.ev] at he
 split at he
 ·cases he
  refine OpRes.pure S (val:=.iface t (a.eval x1)) ?_ (.ia r1)
  simp only[execOp,ho,Instr.makeInterface,Sem.run_bind,run_underlying hu,Result.andThen_ok]
  cases d<;>first|rfl|exact absurd rfl (hd _)
 ·cases he
theorem zoY {f:FuncId} {k:Nat} {first:Array Operand} {xs:Array Operand} {ys:List X} (TO:TabOk key T l) (R:RelF key l fr a.tmps) (S:Sim key F l h w) (ho:o.op=.makeFunc (.func f) first xs)
  (hf:first = #[]) (hk:T.fkey f=some k) (e1:cXs T xs.toList=some ys) (he:(XO.mfn k ys).ev call fr h=some (v,h')):OpRes F P key a o l h w v h':=by
 have r1:=zdU TO R e1
 simp only[XO.ev] at he
 cases he
 subst hf
 refine OpRes.pure S (val:=.func (.func f) #[] (xs.map a.eval)) (by simp[execOp,ho,Instr.makeFunc]) (.fn (TO.f f k hk) (by simpa using r1.1) (fun i h1 h2=>?_))
 have:=r1.2 i h1 (by simpa using h2)
 simpa using this
theorem zoS {s:TypeId} {fs:Array Field} {fd:Field} {i n:Nat} {x1:Operand} {x:X} (TO:TabOk key T l) (R:RelF key l fr a.tmps) (S:Sim key F l h w) (ho:o.op=.fieldAddr s x1 i)
  (hu:P.underlying s=some (.struct fs)) (hf:fs[i]?=some fd) (hn:szOf P fd.type=some n) (h0:n≠0) (e1:cX T x1=some x) (he:(XO.fad fd.offset x).ev call fr h=some (v,h')):OpRes F P key a o l h w v h':=by
 have r1:=zal TO R e1
 simp only[XO.ev] at he
 generalize x.ev fr=A at *
 generalize hva:a.eval x1=va at *
 split at he
 ·cases he
  cases r1 with
  | p hp =>
   refine OpRes.pure S ?_ (.p hp)
   simp[execOp,ho,hva,Instr.fieldAt,run_underlying hu,hf,Instr.sureAddr,fieldPlace,zaq hn,h0,zb4,Nat.add_assoc]
 ·cases he
theorem zjf {l:Loc} {vs:List AV} {ws:Array Value} (R:RelL key l vs ws.toList) {g:Bool} {t:TypeId} {n off:Nat} {z:AV} (hg:aggOf P t=some g) (hn:szOf P t=some n) (hlen:off+n≤vs.length)
  (hz:pickA g ((vs.drop off).take n)=some z) (w:World) :
  ∃val,(part t ws off).run P w=.ok val w∧Rel key l z val:=by
 cases g with
 | true =>
  simp[pickA] at hz;subst hz
  refine⟨.agg (ws.extract off (off+n)),by simp[part,zbI hg,zaq hn],?_⟩
  have:=((R.drop off).take n).ag
  rwa [show (List.take n (List.drop off ws.toList)).toArray=ws.extract off (off+n) by
   apply Array.ext';simp[Array.toList_extract,List.extract,Nat.add_sub_cancel_left]] at this
 | false =>
  simp only[pickA,Bool.false_eq_true,if_false] at hz
  unfold one? at hz
  split at hz
  ·rename_i y hy
   cases hz
   have hl1:((vs.drop off).take n).length=1:=by rw[hy];rfl
   simp at hl1
   have ho:off<vs.length:=by omega
   have ho':off<ws.toList.length:=by rw[←R.1];exact ho
   have hy0:vs[off]=z:=by
    have:=congrArg (fun q=>q[0]?) hy
    simp only[List.getElem?_take,List.getElem?_drop] at this
    rw[if_pos (by omega)] at this
    simp[ho] at this
    exact this
   refine⟨ws[off]'(by simpa using ho'),?_,?_⟩
   ·have:off<ws.size:=by simpa using ho'
    simp[part,zbI hg,this]
   ·have:=R.2 off ho ho'
    rw[hy0] at this
    simpa using this
  ·cases hz
theorem zoT {t:TypeId} {fs:Array Field} {fd:Field} {i n:Nat} {g:Bool} {x1:Operand} {x:X} (TO:TabOk key T l) (R:RelF key l fr a.tmps) (S:Sim key F l h w) (ho:o.op=.field t x1 i)
  (hu:P.underlying t=some (.struct fs)) (hf:fs[i]?=some fd) (hg:aggOf P fd.type=some g) (hn:szOf P fd.type=some n) (e1:cX T x1=some x) (he:(XO.fld g fd.offset n x).ev call fr h=some (v,h')):OpRes F P key a o l h w v h':=by
 have r1:=zal TO R e1
 simp only[XO.ev] at he
 generalize x.ev fr=A at *
 generalize hva:a.eval x1=va at *
 split at he
 ·rename_i vs
  split at he
  ·rename_i hlen
   cases hz:pickA g ((vs.drop fd.offset).take n) with
   | none=>simp[hz] at he
   | some z =>
   simp[hz] at he;obtain⟨rfl,rfl⟩:=he
   cases r1 with
   | @ag _ ws hn' hv =>
    obtain⟨val,h1,h2⟩:=zjf (RelL.of_ag (.ag hn' hv)) hg hn hlen hz w
    exact OpRes.pure S (by simp[execOp,ho,hva,Instr.field,run_underlying hu,hf,asAgg,h1]) h2
  ·cases he
 ·cases he
theorem zbL {A:AV} {n:Nat} (hA:asN A=some n):∃k,A=.i k n:=by
 unfold asN at hA
 cases A with
 | i k m =>
  simp[asI] at hA
  obtain⟨h0,rfl⟩:=hA
  exact⟨k,by rw[Int.toNat_of_nonneg h0]⟩
 | _=>simp[asI] at hA
theorem zoU {t e:TypeId} {len z:Nat} {g:Bool} {x1 x2:Operand} {x y:X} (TO:TabOk key T l) (R:RelF key l fr a.tmps) (S:Sim key F l h w) (ho:o.op=.index t x1 x2)
  (hu:P.underlying t=some (.array len e)) (hg:aggOf P e=some g) (hn:szOf P e=some z) (e1:cX T x1=some x) (e2:cX T x2=some y) (he:(XO.iag len g z x y).ev call fr h=some (v,h')):OpRes F P key a o l h w v h':=by
 have r1:=zal TO R e1
 have r2:=zal TO R e2
 simp only[XO.ev] at he
 generalize x.ev fr=A at *
 generalize y.ev fr=B at *
 generalize hva:a.eval x1=va at *
 generalize hvb:a.eval x2=vb at *
 split at he
 ·rename_i vs j hj
  obtain⟨k,rfl⟩:=zbL hj
  split at he
  ·rename_i hlen
   cases hz:pickA g ((vs.drop (j*z)).take z) with
   | none=>simp[hz] at he
   | some q =>
   simp[hz] at he;obtain⟨rfl,rfl⟩:=he
   cases r2
   cases r1 with
   | @ag _ ws hn' hv =>
    have hb:j*z+z≤vs.length:=by
     have h1:=Nat.mul_le_mul_right z hlen.1
     rw[Nat.succ_mul] at h1
     rw[hlen.2];exact h1
    obtain⟨val,h1,h2⟩:=zjf (RelL.of_ag (.ag hn' hv)) hg hn hb hz w
    refine OpRes.pure S ?_ h2
    have hj2:(0:Int)≤(j:Int)∧(j:Int)<(len:Int):=⟨by omega,by have:=hlen.1;omega⟩
    simp only[execOp,ho,hva,hvb,Instr.index,asIntOf,pure_bind,Sem.run_bind,run_underlying hu,Result.andThen_ok,if_pos hj2,zaq hn,Int.toNat_natCast,h1,Sem.run_pure]
  ·cases he
 ·cases he
theorem zm0 {t:TypeId} {x1 x2:Operand} {x y:X} (TO:TabOk key T l) (R:RelF key l fr a.tmps) (S:Sim key F l h w) (ho:o.op=.index t x1 x2)
  (hu:P.underlying t=some .string) (e1:cX T x1=some x) (e2:cX T x2=some y) (he:(XO.istr x y).ev call fr h=some (v,h')):OpRes F P key a o l h w v h':=by
 have r1:=zal TO R e1
 have r2:=zal TO R e2
 simp only[XO.ev] at he
 generalize x.ev fr=A at *
 generalize y.ev fr=B at *
 generalize hva:a.eval x1=va at *
 generalize hvb:a.eval x2=vb at *
 split at he
 ·rename_i vs j hj
  obtain⟨k,rfl⟩:=zbL hj
  cases r2
  cases r1 with
  | s bs =>
   cases hq:bs.data.toList[j]? with
   | none=>simp[hq] at he
   | some c =>
    simp[hq] at he;obtain⟨rfl,rfl⟩:=he
    refine OpRes.pure S (val:=.int .u8 c.toNat) ?_ (.i _ _)
    have hlt:j<bs.size:=by
     have:=List.getElem?_eq_some_iff.1 hq
     obtain⟨h1,_⟩:=this
     simpa using h1
    have hget:bs[j]?=some c:=by
     obtain⟨h1,h2⟩:=List.getElem?_eq_some_iff.1 hq
     rw[getElem?_pos bs j hlt]
     congr 1
    simp[execOp,ho,hva,hvb,Instr.index,asIntOf,run_underlying hu,hget]
 ·cases he
theorem zoR {x1:Operand} {n:Nat} {x:X} (TO:TabOk key T l) (R:RelF key l fr a.tmps) (S:Sim key F l h w) (ho:o.op=.extract x1 n)
  (e1:cX T x1=some x) (he:(XO.ext x n).ev call fr h=some (v,h')):OpRes F P key a o l h w v h':=by
 have r1:=zal TO R e1
 simp only[XO.ev] at he
 generalize x.ev fr=A at *
 generalize hva:a.eval x1=va at *
 split at he
 ·rename_i vs
  cases hq:vs[n]? with
  | none=>simp[hq] at he
  | some c =>
   simp[hq] at he;obtain⟨rfl,rfl⟩:=he
   obtain⟨hlt,hg⟩:=List.getElem?_eq_some_iff.1 hq
   cases r1 with
   | @tu _ ws hn hv =>
    have hlt':n<ws.size:=by omega
    refine OpRes.pure S (val:=ws[n]) (by simp[execOp,ho,hva,Instr.extract,hlt']) ?_
    rw[←hg];exact hv n hlt hlt'
 ·cases he
end Go.Eng
namespace Go.Eng
variable {F:Nat} {key:Nat→Option FuncId} {P:Program} {T:Tab} {call:Nat→List AV→Hp→Option (AV×Hp)} {l:Loc} {fr:Fr} {a:Act} {h h':Hp} {w:World} {o:Oper} {v:AV}
theorem zoW {t e:TypeId} {z:Nat} {x1 x2:Operand} {x y:X} (TO:TabOk key T l) (R:RelF key l fr a.tmps) (S:Sim key F l h w) (ho:o.op=.indexAddr t x1 x2)
  (hu:P.underlying t=some (.slice e)) (hn:szOf P e=some z) (e1:cX T x1=some x) (e2:cX T x2=some y) (he:(XO.ixs z x y).ev call fr h=some (v,h')):OpRes F P key a o l h w v h':=by
 have r1:=zal TO R e1
 have r2:=zal TO R e2
 simp only[XO.ev] at he
 generalize x.ev fr=A at *
 generalize y.ev fr=B at *
 generalize hva:a.eval x1=va at *
 generalize hvb:a.eval x2=vb at *
 split at he
 ·rename_i m off ln cp z' j hj
  obtain⟨k,rfl⟩:=zbL hj
  split at he
  ·rename_i hlen
   obtain⟨hlt,rfl⟩:=hlen
   cases he
   cases r2
   cases r1 with
   | sl hp h1 h2 h3 =>
    refine OpRes.pure S ?_ (.p hp)
    have hj2:(0:Int)≤(j:Int)∧(j:Int)<(ln:Int):=⟨by omega,by omega⟩
    simp only[execOp,ho,hva,hvb,Instr.indexAt,asIntOf,pure_bind,Sem.run_bind,run_underlying hu,Result.andThen_ok,if_pos hj2,zaq hn,Int.toNat_natCast,zb4,Sem.run_pure,Nat.add_assoc]
  ·cases he
 ·cases he
theorem zoV {t e:TypeId} {ln z:Nat} {x1 x2:Operand} {x y:X} (TO:TabOk key T l) (R:RelF key l fr a.tmps) (S:Sim key F l h w) (ho:o.op=.indexAddr t x1 x2)
  (hu:P.underlying t=some (.array ln e)) (hn:szOf P e=some z) (e1:cX T x1=some x) (e2:cX T x2=some y) (he:(XO.ixa ln z x y).ev call fr h=some (v,h')):OpRes F P key a o l h w v h':=by
 have r1:=zal TO R e1
 have r2:=zal TO R e2
 simp only[XO.ev] at he
 generalize x.ev fr=A at *
 generalize y.ev fr=B at *
 generalize hva:a.eval x1=va at *
 generalize hvb:a.eval x2=vb at *
 split at he
 ·rename_i m off j hj
  obtain⟨k,rfl⟩:=zbL hj
  split at he
  ·rename_i hlt
   cases he
   cases r2
   cases r1 with
   | p hp =>
    refine OpRes.pure S ?_ (.p hp)
    have hj2:(0:Int)≤(j:Int)∧(j:Int)<(ln:Int):=⟨by omega,by omega⟩
    simp only[execOp,ho,hva,hvb,Instr.indexAt,asIntOf,pure_bind,Sem.run_bind,run_underlying hu,Result.andThen_ok,Instr.sureAddr,if_pos hj2,zaq hn,Int.toNat_natCast,zb4,Sem.run_pure,Nat.add_assoc]
  ·cases he
 ·cases he
def RelO (key:Nat→Option FuncId) (l:Loc):Option AV→Option Value→Prop
 | none,none=>True
 | some v,some w=>Rel key l v w
 | _,_=>False
theorem zcw (TO:TabOk key T l) (R:RelF key l fr a.tmps) {x:Option Operand} {y:Option X} (hx:cXo T x=some y):RelO key l (y.map (X.ev fr)) (x.map a.eval):=by
 cases x with
 | none=>simp[cXo] at hx;subst hx;trivial
 | some x =>
  cases hc:cX T x with
  | none=>simp[cXo,hc] at hx
  | some z=>simp[cXo,hc] at hx;subst hx;exact zal TO R hc
theorem zaF {v:AV} {x:Value} {n y:Nat} {c:BoundsCode} (hr:Rel key l v x) (hv:asN v=some n) (hn:n≤y) (w:World):(Instr.sliceBound x y c).run P w=.ok n w:=by
 obtain⟨k,rfl⟩:=zbL hv
 cases hr
 have hj:(0:Int)≤(n:Int)∧(n:Int)≤(y:Int):=⟨by omega,by omega⟩
 simp only[Instr.sliceBound,asIntOf,pure_bind,Sem.run_bind,if_pos hj,Int.toNat_natCast,Sem.run_pure]
theorem zbg {s:Bool} {len cap cap' m hh ll:Nat} {lo hi mx:Option AV} {lo' hi' mx':Option Value} (rl:RelO key l lo lo') (rh:RelO key l hi hi') (rm:RelO key l mx mx')
  (em:optN cap mx=some m) (eh:optN len hi=some hh) (el:optN 0 lo=some ll)
  (h1:ll≤hh) (h2:hh≤m) (h3:m≤cap) (h4:cap≤cap') (h5:mx.isSome=true→hi.isSome=true) (w:World) :
  (Instr.sliceBounds s len cap' lo' hi' mx').run P w=.ok (ll,hh,if mx.isSome then m else cap') w:=by
 cases mx with
 | none =>
  cases mx' with
  | some _=>exact rm.elim
  | none =>
   simp[optN] at em;subst em
   cases hi with
   | none =>
    cases hi' with
    | some _=>exact rh.elim
    | none =>
     simp[optN] at eh;subst eh
     simp only[Instr.sliceBounds,pure_bind,Option.isSome_none,Bool.false_eq_true,if_false]
     cases lo with
     | none =>
      cases lo' with
      | some _=>exact rl.elim
      | none=>simp[optN] at el;subst el;rfl
     | some v =>
      cases lo' with
      | none=>exact rl.elim
      | some x=>simp only[Sem.run_bind];rw[zaF rl el h1];rfl
   | some vh =>
    cases hi' with
    | none=>exact rh.elim
    | some xh =>
     simp only[Instr.sliceBounds,pure_bind,Option.isSome_none,Bool.false_eq_true,if_false]
     rw[Sem.run_bind,zaF rh eh (by omega)]
     simp only[Result.andThen_ok]
     cases lo with
     | none =>
      cases lo' with
      | some _=>exact rl.elim
      | none=>simp[optN] at el;subst el;rfl
     | some v =>
      cases lo' with
      | none=>exact rl.elim
      | some x=>simp only[Sem.run_bind];rw[zaF rl el h1];rfl
 | some vm =>
  cases mx' with
  | none=>exact rm.elim
  | some xm =>
   cases hi with
   | none=>simp at h5
   | some vh =>
    cases hi' with
    | none=>exact rh.elim
    | some xh =>
     simp only[Instr.sliceBounds,Option.isSome_some,if_true]
     rw[Sem.run_bind,zaF rm em (by omega)]
     simp only[Result.andThen_ok]
     rw[Sem.run_bind,zaF rh eh h2]
     simp only[Result.andThen_ok]
     cases lo with
     | none =>
      cases lo' with
      | some _=>exact rl.elim
      | none=>simp[optN] at el;subst el;rfl
     | some v =>
      cases lo' with
      | none=>exact rl.elim
      | some x=>simp only[Sem.run_bind];rw[zaF rl el h1];rfl
theorem znD {t e:TypeId} {z:Nat} {A r:AV} {va:Value} {lo hi mx:Option AV} {lo' hi' mx':Option Value} (hu:P.underlying t=some (.slice e)) (hn:szOf P e=some z)
  (ra:Rel key l A va) (rl:RelO key l lo lo') (rh:RelO key l hi hi') (rm:RelO key l mx mx') (hs:slA z A lo hi mx=some r) (w:World) :
  ∃val,(Instr.sliceAt t va lo' hi' mx').run P w=.ok val w∧Rel key l r val:=by
 have start:∀(x:Option Addr) (n c:Nat),Instr.sliceAt t (.slice x n c) lo' hi' mx'=(do
   match ←underlying t with
   | .array n elem =>
    let a ←Instr.sureAddr (.slice x n c)
    let (l,h,m) ←Instr.sliceBounds false n n lo' hi' mx'
    let size ←sizeOf elem
    pure (.slice (some (if m=l then a else a.add (l*size))) (h-l) (m-l))
   | _=>Instr.slice t (.slice x n c) lo' hi' mx'):=fun x n c=>rfl
 have inner:∀(x:Option Addr) (n c b1 b2 b3:Nat),(Instr.sliceBounds true n c lo' hi' mx').run P w=.ok (b1,b2,b3) w →
   (Instr.sliceAt t (.slice x n c) lo' hi' mx').run P w=.ok (.slice (if b3=b1 then x else x.map (·.add (b1*z))) (b2-b1) (b3-b1)) w:=fun x n c b1 b2 b3 hb=>by
  rw[start]
  simp only[Sem.run_bind,run_underlying hu,Result.andThen_ok,Instr.slice,hb,zaq hn,Sem.run_pure]
 unfold slA at hs
 split at hs
 ·rename_i n off len cap z'
  split at hs
  ·split at hs
   ·rename_i hc
    obtain⟨c1,c2,c3,c4⟩:=hc
    subst c1
    cases hs
    obtain rfl:mx=none:=by cases mx<;>simp at c4 ⊢
    cases mx' with
    | some _=>exact rm.elim
    | none =>
    cases ra with
    | @sl _ _ _ _ cap' _ at_ hp p1 p2 p3 =>
     have hb:=zbg (P:=P) (s:=true) (len:=0) (cap:=cap) (cap':=cap') (mx:=none) (mx':=none) rl rh trivial rfl c3 c2 (by omega) (by omega) (Nat.le_refl _) p1 (by simp) w
     have hi:=inner (some ⟨at_.b,at_.o+off,none⟩) 0 cap' _ _ _ hb
     refine⟨_,hi,?_⟩
     simp only[Option.isSome_none,Bool.false_eq_true,if_false,Option.map_some,zb4,Nat.zero_mul,Nat.add_zero,Nat.sub_zero,ite_self]
     exact .sl hp p1 p2 p3
   ·cases hs
  ·rename_i hz
   have hz':z'=z:=by simpa using hz
   subst hz'
   split at hs
   ·rename_i m hh ll em eh el
    split at hs
    ·rename_i hc
     obtain⟨c1,c2,c3,c4⟩:=hc
     cases ra with
     | @sl _ _ _ _ cap' _ at_ hp p1 p2 p3 =>
      have hb:=zbg (P:=P) (s:=true) (cap':=cap') rl rh rm em eh el c1 c2 c3 p1 c4 w
      have hi:=inner (some ⟨at_.b,at_.o+off,none⟩) len cap' _ _ _ hb
      refine⟨_,hi,?_⟩
      split at hs
      ·rename_i hml
       subst hml
       have e0:hh-m=0:=by omega
       cases mx with
       | some _ =>
        simp at hs;subst hs
        simp[e0]
        exact .se _
       | none =>
        simp at hs;subst hs
        simp only[Option.isSome_none,Bool.false_eq_true,if_false,e0]
        split<;>exact .e0 _ _
      ·rename_i hml
       cases hs
       cases mx with
       | some _ =>
        simp only[Option.isSome_some,if_true,if_neg hml,Option.map_some,zb4,Nat.add_assoc]
        refine .sl hp (Nat.le_refl _) ?_ (by omega)
        have:(m-ll)*z'+ll*z'≤cap'*z':=by rw[←Nat.add_mul];exact Nat.mul_le_mul_right _ (by omega)
        omega
       | none =>
        simp[optN] at em;subst em
        have hne:¬cap'=ll:=by omega
        simp only[Option.isSome_none,Bool.false_eq_true,if_false,if_neg hne,Option.map_some,zb4,Nat.add_assoc]
        refine .sl hp (by omega) ?_ (by omega)
        have:(cap'-ll)*z'+ll*z'≤cap'*z':=by rw[←Nat.add_mul];exact Nat.mul_le_mul_right _ (by omega)
        omega
    ·cases hs
   ·cases hs
 all_goals (try (cases hs;done))
 all_goals
  split at hs
  ·rename_i em eh el
   have hb:∀c',mx.isSome=true→hi.isSome=true→(Instr.sliceBounds true 0 c' lo' hi' mx').run P w=.ok (0,0,0) w:=fun c' q1 q2=>by
    have:=zbg (P:=P) (s:=true) (len:=0) (cap:=0) (cap':=c') rl rh rm em eh el (by omega) (by omega) (by omega) (by omega) (fun _=>q2) w
    rwa [if_pos q1] at this
   have hb':∀c',mx.isSome=false→(Instr.sliceBounds true 0 c' lo' hi' mx').run P w=.ok (0,0,c') w:=fun c' q1=>by
    have:=zbg (P:=P) (s:=true) (len:=0) (cap:=0) (cap':=c') rl rh rm em eh el (by omega) (by omega) (by omega) (by omega) (fun q=>by rw[q1] at q;cases q) w
    rwa [if_neg (by simp[q1])] at this
   split at hs
   ·rename_i q1
    split at hs
    ·rename_i q2
     cases hs
     cases ra
     all_goals
      refine⟨_,inner _ _ _ _ _ _ (hb _ q1 q2),?_⟩
      first|exact .sn|exact .se _
    ·cases hs
   ·rename_i q1
    cases hs
    cases ra
    all_goals
     refine⟨_,inner _ _ _ _ _ _ (hb' _ (by simpa using q1)),?_⟩
     first
      | exact .sn
      | exact .se _
      | (split<;>exact .e0 _ _)
  ·cases hs
theorem zm4 {t e:TypeId} {z:Nat} {x1:Operand} {lo hi mx:Option Operand} {x:X} {lo' hi' mx':Option X} (TO:TabOk key T l) (R:RelF key l fr a.tmps) (S:Sim key F l h w) (ho:o.op=.slice t x1 lo hi mx)
  (hu:P.underlying t=some (.slice e)) (hn:szOf P e=some z) (e1:cX T x1=some x) (e2:cXo T lo=some lo') (e3:cXo T hi=some hi') (e4:cXo T mx=some mx')
  (he:(XO.slsl z x lo' hi' mx').ev call fr h=some (v,h')):OpRes F P key a o l h w v h':=by
 simp only[XO.ev] at he
 cases hb:slA z (x.ev fr) (lo'.map (X.ev fr)) (hi'.map (X.ev fr)) (mx'.map (X.ev fr)) with
 | none=>simp[hb] at he
 | some q =>
  simp[hb] at he;obtain⟨rfl,rfl⟩:=he
  obtain⟨val,h1,h2⟩:=znD (P:=P) hu hn (zal TO R e1) (zcw TO R e2) (zcw TO R e3) (zcw TO R e4) hb w
  exact OpRes.pure S (by simp[execOp,ho,h1]) h2
end Go.Eng
namespace Go.Eng
variable {F:Nat} {key:Nat→Option FuncId} {P:Program} {T:Tab} {call:Nat→List AV→Hp→Option (AV×Hp)} {l:Loc} {fr:Fr} {a:Act} {h h':Hp} {w:World} {o:Oper} {v:AV}
theorem zkA {t:TypeId} {x1:Operand} {lo hi:Option Operand} {x:X} {lo' hi':Option X} (TO:TabOk key T l) (R:RelF key l fr a.tmps) (S:Sim key F l h w) (ho:o.op=.slice t x1 lo hi none)
  (hu:P.underlying t=some .string) (e1:cX T x1=some x) (e2:cXo T lo=some lo') (e3:cXo T hi=some hi')
  (he:(XO.slstr x lo' hi').ev call fr h=some (v,h')):OpRes F P key a o l h w v h':=by
 have r1:=zal TO R e1
 simp only[XO.ev] at he
 generalize x.ev fr=A at *
 generalize hva:a.eval x1=va at *
 split at he
 ·rename_i bs0
  cases r1 with
  | s bs =>
   cases hb:slStr bs.data.toList (lo'.map (X.ev fr)) (hi'.map (X.ev fr)) with
   | none=>simp[hb] at he
   | some q =>
    simp[hb] at he;obtain⟨rfl,rfl⟩:=he
    unfold slStr at hb
    split at hb
    ·rename_i hh ll eh el
     split at hb
     ·rename_i hc
      cases hb
      have hsz:bs.data.toList.length=bs.size:=Array.length_toList
      rw[hsz] at eh hc
      have hb:=zbg (P:=P) (s:=false) (cap':=bs.size) (cap:=bs.size) (mx:=none) (mx':=none) (zcw TO R e2) (zcw TO R e3) trivial rfl eh el hc.1 hc.2 (Nat.le_refl _) (Nat.le_refl _) (by simp) w
      refine OpRes.pure S (val:=.string (bs.extract ll hh)) ?_ ?_
      ·simp only[execOp,ho,hva,Option.map_none,Instr.sliceAt,Sem.run_bind,run_underlying hu,Result.andThen_ok,Instr.slice,Option.isSome_none,Bool.false_eq_true,if_false,hb,Sem.run_pure,pure_bind]
      ·have:=Rel.s (key:=key) (l:=l) (bs.extract ll hh)
       rwa [show (bs.extract ll hh).data.toList=(bs.data.toList.take hh).drop ll by
        rw[ByteArray.data_extract,Array.toList_extract,List.extract_eq_take_drop,List.drop_take]] at this
     ·cases hb
    ·cases hb
 ·cases he
theorem zkz {t e:TypeId} {n z:Nat} {x1:Operand} {lo hi:Option Operand} {x:X} {lo' hi':Option X} (TO:TabOk key T l) (R:RelF key l fr a.tmps) (S:Sim key F l h w) (ho:o.op=.slice t x1 lo hi none)
  (hu:P.underlying t=some (.array n e)) (hn:szOf P e=some z) (e1:cX T x1=some x) (e2:cXo T lo=some lo') (e3:cXo T hi=some hi')
  (he:(XO.slarr n z x lo' hi').ev call fr h=some (v,h')):OpRes F P key a o l h w v h':=by
 have r1:=zal TO R e1
 simp only[XO.ev] at he
 generalize x.ev fr=A at *
 generalize hva:a.eval x1=va at *
 split at he
 ·rename_i m off
  split at he
  ·rename_i blk hblk
   split at he
   ·rename_i hlen
    cases r1 with
    | @p _ _ at_ hp =>
     have H:=S.holds m blk at_ hblk hp
     cases hb:slA z (.sl m off n n z) (lo'.map (X.ev fr)) (hi'.map (X.ev fr)) none with
     | none=>simp[hb] at he
     | some q =>
      simp[hb] at he;obtain⟨rfl,rfl⟩:=he
      unfold slA at hb
      simp only[ne_eq,not_true_eq_false,if_false] at hb
      split at hb
      ·rename_i mm hh ll em eh el
       simp[optN] at em;subst em
       split at hb
       ·rename_i hc
        have hB:=zbg (P:=P) (s:=false) (cap':=n) (cap:=n) (mx:=none) (mx':=none) (zcw TO R e2) (zcw TO R e3) trivial rfl eh el hc.1 hc.2.1 (Nat.le_refl _) (Nat.le_refl _) (by simp) w
        refine OpRes.pure S (val:=.slice (some (if n=ll then ⟨at_.b,at_.o+off,none⟩ else (⟨at_.b,at_.o+off,none⟩:Addr).add (ll*z))) (hh-ll) (n-ll)) ?_ ?_
        ·simp only[execOp,ho,hva,Option.map_none,Instr.sliceAt,Sem.run_bind,run_underlying hu,Result.andThen_ok,Instr.sureAddr,pure_bind,hB,Option.isSome_none,Bool.false_eq_true,if_false,zaq hn,Sem.run_pure]
        ·split at hb
         ·rename_i hml
          subst hml
          simp at hb;subst hb
          have e0:hh-n=0:=by omega
          rw[e0]
          exact .e0 _ _
         ·rename_i hml
          cases hb
          rw[if_neg hml,zb4,Nat.add_assoc]
          refine .sl hp (Nat.le_refl _) ?_ (by omega)
          have h1:(n-ll)*z+ll*z=n*z:=by rw[←Nat.add_mul];congr 1;omega
          have:=H.len
          omega
       ·cases hb
      ·cases hb
   ·cases he
  ·cases he
 ·cases he
theorem zm1 {t:TypeId} {x1:Operand} {x:X} (TO:TabOk key T l) (R:RelF key l fr a.tmps) (S:Sim key F l h w)
  (ho:o.op=.call { callee:=.builtin .len,args := #[x1],argTypes := #[t] }) (hu:P.underlying t=some .string) (e1:cX T x1=some x)
  (he:(XO.lens x).ev call fr h=some (v,h')):OpRes F P key a o l h w v h':=by
 have r1:=zal TO R e1
 simp only[XO.ev] at he
 generalize x.ev fr=A at *
 generalize hva:a.eval x1=va at *
 split at he
 ·cases r1 with
  | s bs =>
   cases he
   have hsz:bs.data.toList.length=bs.size:=Array.length_toList
   refine OpRes.pure S (val:=goInt bs.size) ?_ (by rw[hsz];exact .i _ _)
   simp[execOp,ho,hva,resolve,invoke,builtin,Builtin.len_,run_underlying hu]
 ·cases he
theorem zoX {t e:TypeId} {x1:Operand} {x:X} (TO:TabOk key T l) (R:RelF key l fr a.tmps) (S:Sim key F l h w)
  (ho:o.op=.call { callee:=.builtin .len,args := #[x1],argTypes := #[t] }) (hu:P.underlying t=some (.slice e)) (e1:cX T x1=some x)
  (he:(XO.len x).ev call fr h=some (v,h')):OpRes F P key a o l h w v h':=by
 have r1:=zal TO R e1
 simp only[XO.ev] at he
 generalize x.ev fr=A at *
 generalize hva:a.eval x1=va at *
 split at he
 all_goals
  first
  | (cases he;done)
  | (cases he;cases r1;exact OpRes.pure S (by simp only[execOp,ho,hva,resolve,invoke,builtin,Builtin.len_,List.map_toArray,List.map_cons,List.map_nil,pure_bind,Sem.run_bind,run_underlying hu,Result.andThen_ok,List.getElem?_toArray,List.getElem?_cons_zero,Sem.run_pure];rfl) (.i _ _))
theorem ziJ {t t' e:TypeId} {n:Nat} {x1:Operand} (S:Sim key F l h w)
  (ho:o.op=.call { callee:=.builtin .len,args := #[x1],argTypes := #[t] }) (hu:P.underlying t=some (.array n e)∨(P.underlying t=some (.pointer t')∧P.underlying t'=some (.array n e)))
  (he:(XO.lenc n).ev call fr h=some (v,h')):OpRes F P key a o l h w v h':=by
 simp only[XO.ev] at he
 cases he
 refine OpRes.pure S (val:=goInt n) ?_ (.i _ _)
 rcases hu with hu|⟨hu,hu'⟩
 ·simp[execOp,ho,resolve,invoke,builtin,Builtin.len_,run_underlying hu]
 ·simp[execOp,ho,resolve,invoke,builtin,Builtin.len_,run_underlying hu,run_underlying hu']
theorem ziA:∀{ls:List AV} {A r:AV} {va:Value} {ws:List Value},Rel key l A va→RelL key l ls ws→mmA true A ls=some r →
  ∃val,(ws.foldlM Builtin.max2 va).run P w=.ok val w∧Rel key l r val
 | [],A,r,va,ws,ra,rl,hm=>by
  have:ws=[]:=List.length_eq_zero_iff.1 (by rw[←rl.1];rfl)
  subst this
  simp[mmA] at hm;subst hm
  exact⟨va,by simp,ra⟩
 | y::ls,A,r,va,ws,ra,rl,hm=>by
  cases ws with
  | nil=>simp[RelL] at rl
  | cons wv ws =>
   have r1:Rel key l y wv:=rl.2 0 (by simp) (by simp)
   have r2:RelL key l ls ws:=⟨by simpa using rl.1,fun i h1 h2=>rl.2 (i+1) (Nat.succ_lt_succ h1) (Nat.succ_lt_succ h2)⟩
   unfold mmA at hm
   split at hm
   ·rename_i k x k' y'
    split at hm
    ·rename_i hk;subst hk
     cases ra;cases r1
     have ra':Rel key l (.i k (if y'>x then y' else x)) (.int k (if y'>x then y' else x)):=.i _ _
     obtain⟨val,h1,h2⟩:=ziA ra' r2 (by simpa using hm)
     exact⟨val,by simpa [List.foldlM_cons,Builtin.max2] using h1,h2⟩
    ·cases hm
   ·cases hm
theorem ziD:∀{ls:List AV} {A r:AV} {va:Value} {ws:List Value},Rel key l A va→RelL key l ls ws→mmA false A ls=some r →
  ∃val,(ws.foldlM Builtin.min2 va).run P w=.ok val w∧Rel key l r val
 | [],A,r,va,ws,ra,rl,hm=>by
  have:ws=[]:=List.length_eq_zero_iff.1 (by rw[←rl.1];rfl)
  subst this
  simp[mmA] at hm;subst hm
  exact⟨va,by simp,ra⟩
 | y::ls,A,r,va,ws,ra,rl,hm=>by
  cases ws with
  | nil=>simp[RelL] at rl
  | cons wv ws =>
   have r1:Rel key l y wv:=rl.2 0 (by simp) (by simp)
   have r2:RelL key l ls ws:=⟨by simpa using rl.1,fun i h1 h2=>rl.2 (i+1) (Nat.succ_lt_succ h1) (Nat.succ_lt_succ h2)⟩
   unfold mmA at hm
   split at hm
   ·rename_i k x k' y'
    split at hm
    ·rename_i hk;subst hk
     cases ra;cases r1
     have ra':Rel key l (.i k (if y'<x then y' else x)) (.int k (if y'<x then y' else x)):=.i _ _
     obtain⟨val,h1,h2⟩:=ziD ra' r2 (by simpa using hm)
     exact⟨val,by simpa [List.foldlM_cons,Builtin.min2] using h1,h2⟩
    ·cases hm
   ·cases hm
theorem zo0 {ts:Array TypeId} {b:Bool} {x1:Operand} {xs:List Operand} {x:X} {ys:List X} (TO:TabOk key T l) (R:RelF key l fr a.tmps) (S:Sim key F l h w)
  (ho:o.op=.call { callee:=.builtin (if b then .max else .min),args:=(x1::xs).toArray,argTypes:=ts }) (e1:cX T x1=some x) (e2:cXs T xs=some ys)
  (he:(XO.mm b x ys).ev call fr h=some (v,h')):OpRes F P key a o l h w v h':=by
 have r1:=zal TO R e1
 have r2:=zdU TO R e2
 simp only[XO.ev] at he
 cases hb:mmA b (x.ev fr) (ys.map (X.ev fr)) with
 | none=>simp[hb] at he
 | some q =>
  simp[hb] at he;obtain⟨rfl,rfl⟩:=he
  cases b with
  | true =>
   obtain⟨val,h1,h2⟩:=ziA (P:=P) (w:=w) r1 r2 hb
   exact OpRes.pure S (by simp[execOp,ho,resolve,invoke,builtin,Builtin.max_,h1]) h2
  | false =>
   obtain⟨val,h1,h2⟩:=ziD (P:=P) (w:=w) r1 r2 hb
   exact OpRes.pure S (by simp[execOp,ho,resolve,invoke,builtin,Builtin.min_,h1]) h2
theorem zhb (off:Nat):∀(cs:List Value) (k:Nat) (cells:Array Value),off+k+cs.length≤cells.size →
  ((cs.zipIdx k).foldl (fun acc (p:Value×Nat)=>acc.setIfInBounds (off+p.2) p.1) cells).toList=cells.toList.take (off+k)++cs++cells.toList.drop (off+k+cs.length)
 | [],k,cells,_=>by simp
 | c::cs,k,cells,hl=>by
  simp only[List.zipIdx_cons,List.foldl_cons]
  rw[zhb off cs (k+1) _ (by simp at hl ⊢;omega)]
  have hlt:off+k<cells.toList.length:=by simp at hl ⊢;omega
  simp only[Array.toList_setIfInBounds]
  rw[show off+(k+1)=off+k+1 by omega,List.take_set,List.drop_set_of_lt (by omega)]
  rw[List.take_succ_eq_append_getElem hlt]
  simp only[List.length_cons]
  rw[show off+k+1+cs.length=off+k+(cs.length+1) by omega]
  have hlen:(List.take (off+k) cells.toList).length=off+k:=by rw[List.length_take];omega
  rw[List.set_append_right _ _ (by rw[hlen];omega)]
  simp[hlen]
theorem RelL.splice {vs cs:List AV} {ws ds:List Value} (h:RelL key l vs ws) (k:RelL key l cs ds) (off:Nat):RelL key l (splice vs off cs) (ws.take off++ds++ws.drop (off+ds.length)):=by
 unfold Eng.splice
 rw[k.1]
 exact((h.take off).append k).append (h.drop _)
theorem zcF (TO:TabOk key T l) (R:RelF key l fr a.tmps) {place:Nat→Option (Nat×Nat)}:∀{ps:List (Nat×Operand)} {qs:List (Nat×Nat×X)} {z r:List AV} {cells:Array Value},
  RelL key l z cells.toList→cPlaces T place ps=some qs→fillA fr z qs=some r→z.all AV.scal=true →
  ∃cells',Instr.fill place cells (ps.map fun p=>(p.1,a.eval p.2))=some cells'∧RelL key l r cells'.toList∧r.all AV.scal=true∧r.length=z.length
 | [],qs,z,r,cells,rz,hp,hf,hs=>by
  simp[cPlaces] at hp;subst hp
  simp[fillA] at hf;subst hf
  exact⟨cells,rfl,rz,hs,rfl⟩
 | (i,x)::ps,qs,z,r,cells,rz,hp,hf,hs=>by
  simp only[cPlaces] at hp
  split at hp
  ·rename_i off size y qs' e1 e2 e3
   cases hp
   simp only[fillA] at hf
   split at hf
   ·rename_i hc
    obtain⟨c1,c2,c3⟩:=hc
    have r1:=(zal TO R e2).cells
    have hsz:(a.eval x).cells.toList.length=size:=by rw[←r1.1];exact c1
    have hzl:cells.size=z.length:=by have:=rz.1;simp at this;exact this.symm
    have hset:=zhb off (a.eval x).cells.toList 0 cells (by rw[hsz];omega)
    have rs:=rz.splice r1 off
    have hs':(splice z off (y.ev fr).cells).all AV.scal=true:=by
     rw[List.all_eq_true] at hs c3 ⊢
     intro q hq
     simp only[splice,List.mem_append] at hq
     rcases hq with (hq|hq)|hq
     ·exact hs q (List.mem_of_mem_take hq)
     ·exact c3 q hq
     ·exact hs q (List.mem_of_mem_drop hq)
    have hlen:(splice z off (y.ev fr).cells).length=z.length:=by simp[splice];omega
    simp only[Nat.add_zero] at hset
    rw[←hset] at rs
    obtain⟨cells',g1,g2,g3,g4⟩:=zcF TO R rs e3 hf hs'
    refine⟨cells',?_,g2,g3,by rw[g4,hlen]⟩
    simp only[List.map_cons,Instr.fill,e1]
    have hs1:(a.eval x).cells.size=size:=by simpa using hsz
    rw[if_neg (by simp[hs1];omega)]
    rw[←g1]
    congr 1
    rw[←Array.foldl_toList,Array.toList_zipIdx]
   ·cases hf
  ·cases hp
end Go.Eng
namespace Go.Eng
variable {F:Nat} {key:Nat→Option FuncId} {P:Program} {T:Tab} {call:Nat→List AV→Hp→Option (AV×Hp)} {l:Loc} {fr:Fr} {a:Act} {h h':Hp} {w:World} {o:Oper} {v:AV}
theorem OpRes.mem {l':Loc} {h':Hp} {w':World} {val:Value} (he:(execOp a.eval o).run P w=.ok (.value val) w') (E:Ext l h w l' h' w') (S:Sim key F l' h' w') (R:Rel key l' v val):OpRes F P key a o l h w v h' :=
 ⟨l',val,w',.inl he,E,S,R⟩
def plOf (P:Program) (f:Field):Nat×Nat:=(f.offset,(szOf P f.type).getD 0)
theorem zg2:∀(fl:List Field),(∀f∈fl,(szOf P f.type).isSome=true)→∀w:World,(fl.mapM fun f=>(do pure (f.offset,←sizeOf f.type):Sem (Nat×Nat))).run P w=.ok (fl.map (plOf P)) w
 | [],_,_=>rfl
 | f::fl,hfl,w=>by
  obtain⟨q,hq⟩:=Option.isSome_iff_exists.1 (hfl f (by simp))
  have ih:=zg2 fl (fun g hg=>hfl g (by simp[hg])) w
  simp only[List.mapM_cons,Sem.run_bind,zaq hq,Result.andThen_ok,Sem.run_pure,List.map_cons]
  rw[ih]
  simp[plOf,hq]
theorem zjk (fs:Array Field) (hall:(fs.all fun f=>(szOf P f.type).isSome)=true) (w:World):(fs.mapM fun f=>(do pure (f.offset,←sizeOf f.type):Sem (Nat×Nat))).run P w=.ok (fs.map (plOf P)) w:=by
 rw[Array.mapM_eq_mapM_toList]
 rw[Sem.run_map,zg2 fs.toList (by intro f hf';rw[Array.all_eq_true_iff_forall_mem] at hall;exact hall f (by simpa using hf')) w]
 simp only[Result.andThen_ok]
 congr 1
 apply Array.ext'
 simp
theorem zjz (fs:Array Field) (hall:(fs.all fun f=>(szOf P f.type).isSome)=true):(fun i=>(fs.map (plOf P))[i]?)=sPlace P fs:=by
 funext i
 unfold sPlace
 rw[Array.getElem?_map]
 cases hfi:fs[i]? with
 | none=>rfl
 | some f =>
  rw[Array.all_eq_true_iff_forall_mem] at hall
  obtain⟨q,hq⟩:=Option.isSome_iff_exists.1 (hall f (Array.mem_of_getElem? hfi))
  simp[hq,plOf]
theorem zgK {t:TypeId} {ps:Array (Nat×Operand)} {z:List AV} {qs:List (Nat×Nat×X)} (TO:TabOk key T l) (R:RelF key l fr a.tmps) (S:Sim key F l h w) (ho:o.op=.build t ps)
  (hz:zOf P t=some z) (hp:(∃fs,P.underlying t=some (.struct fs)∧(fs.all fun f=>(szOf P f.type).isSome)=true∧cPlaces T (sPlace P fs) ps.toList=some qs) ∨
   (∃n e s,P.underlying t=some (.array n e)∧szOf P e=some s∧cPlaces T (fun i=>some (i*s,s)) ps.toList=some qs))
  (he:(XO.build z qs).ev call fr h=some (v,h')):OpRes F P key a o l h w v h':=by
 simp only[XO.ev] at he
 cases hf:fillA fr z qs with
 | none=>simp[hf] at he
 | some r =>
  simp[hf] at he;obtain⟨rfl,rfl⟩:=he
  unfold zOf at hz
  cases hi:P.info? t with
  | none=>simp[hi] at hz
  | some i =>
   simp[hi] at hz
   cases hzz:i.zero with
   | none=>simp[hzz] at hz
   | some zv =>
    simp[hzz] at hz
    have rz:RelL key l z zv.cells.toList:=zbl hz
    have sz:=zcc hz
    have zrun:(zeroValue t).run P w=.ok zv w:=by simp[zeroValue,typeInfo,hi,hzz]
    rcases hp with⟨fs,hu,hall,hp⟩|⟨n,e,s,hu,hs,hp⟩
    ·obtain⟨cells',g1,g2,_,_⟩:=zcF TO R rz hp hf sz
     have hm:=zjk fs hall w
     have hfun:=zjz fs hall
     refine OpRes.pure S (val:=.agg cells') ?_ (by simpa using g2.ag)
     simp only[execOp,ho,Instr.build,Sem.run_bind,zrun,Result.andThen_ok,run_underlying hu]
     rw[hm]
     simp only[Result.andThen_ok,Array.toList_map,hfun]
     rw[g1]
     rfl
    ·obtain⟨cells',g1,g2,_,_⟩:=zcF TO R rz hp hf sz
     refine OpRes.pure S (val:=.agg cells') ?_ (by simpa using g2.ag)
     simp only[execOp,ho,Instr.build,Sem.run_bind,zrun,Result.andThen_ok,Sem.run_map,run_underlying hu,zaq hs]
     simp only[Array.toList_map]
     rw[g1]
     rfl
theorem zeW {n off k:Nat} {ls:List AV} {at_:At} (S:Sim key F l h w) (hr:h.rd n off k=some ls) (hl:l n=some at_) :
  ∃ws:List Value,RelL key l ls ws∧ws.length=k∧(∀j v,ws[j]?=some v→w.cell? ((⟨at_.b,at_.o+off,none⟩:Addr).add j)=some v)∧(∀v∈ws,v.oneCell'=true):=by
 unfold Hp.rd at hr
 split at hr
 ·rename_i b hb
  split at hr
  ·rename_i hk
   cases hr
   exact(S.holds n b at_ hb hl).read off k hk
  ·cases hr
 ·cases hr
theorem zgF {t:TypeId} {g:Bool} {n:Nat} {ad:Addr} {ws:List Value} (hg:aggOf P t=some g) (hn:szOf P t=some n) (hl:ws.length=n) (hc:∀j v,ws[j]?=some v→w.cell? (ad.add j)=some v)
  (h1:g=false→n=1):(loadVar t ad).run P w=.ok (if g then .agg ws.toArray else ws.getD 0 undef) w:=by
 cases g with
 | true =>
  subst hl
  simp only[loadVar,Sem.run_bind,zbI hg,Result.andThen_ok,if_true,zaq hn,run_loadCells_list w ad ws hc,Sem.run_map,Sem.run_pure]
 | false =>
  have hn1:=h1 rfl
  subst hn1
  obtain⟨x,rfl⟩:=List.length_eq_one_iff.1 hl
  have:=hc 0 x rfl
  simp only[Addr.add,if_true] at this
  simp[loadVar,zbI hg,this]
theorem zfF {g:Bool} {ls:List AV} {r:AV} {ws:List Value} (hp:pickA g ls=some r) (hr:RelL key l ls ws):(g=false→ws.length=1)∧Rel key l r (if g then .agg ws.toArray else ws.getD 0 undef):=by
 cases g with
 | true=>simp[pickA] at hp;subst hp;exact⟨by simp,hr.ag⟩
 | false =>
  simp only[pickA,Bool.false_eq_true,if_false] at hp
  unfold one? at hp
  split at hp
  ·cases hp
   have hl:ws.length=1:=by rw[←hr.1];rfl
   obtain⟨x,rfl⟩:=List.length_eq_one_iff.1 hl
   exact⟨fun _=>rfl,by simpa using hr.2 0 (by simp) (by simp)⟩
  ·cases hp
theorem zm2 {t:TypeId} {g:Bool} {n:Nat} {x1:Operand} {x:X} (TO:TabOk key T l) (R:RelF key l fr a.tmps) (S:Sim key F l h w) (ho:o.op=.load t x1)
  (hg:aggOf P t=some g) (hn:szOf P t=some n) (e1:cX T x1=some x) (he:(XO.load g n x).ev call fr h=some (v,h')):OpRes F P key a o l h w v h':=by
 have r1:=zal TO R e1
 simp only[XO.ev] at he
 generalize x.ev fr=A at *
 generalize hva:a.eval x1=va at *
 split at he
 ·split at he
  ·rename_i m off ls hrd
   cases hp:pickA g ls with
   | none=>simp[hp] at he
   | some q =>
    simp[hp] at he;obtain⟨rfl,rfl⟩:=he
    cases r1 with
    | p hl =>
     obtain⟨ws,h1,h2,h3,_⟩:=zeW S hrd hl
     obtain⟨p1,p2⟩:=zfF hp h1
     refine OpRes.pure S ?_ p2
     simp only[execOp,ho,hva,Instr.loadAt,Instr.sureAddr,pure_bind,Sem.run_bind,zgF hg hn h2 h3 (fun q=>by rw[←h2];exact p1 q),Result.andThen_ok,Sem.run_pure]
  ·cases he
 ·cases he
theorem zkB {t:TypeId} {n:Nat} {x1 x2:Operand} {x y:X} (TO:TabOk key T l) (R:RelF key l fr a.tmps) (S:Sim key F l h w) (ho:o.op=.store t x1 x2)
  (hn:szOf P t=some n) (e1:cX T x1=some x) (e2:cX T x2=some y) (he:(XO.store n x y).ev call fr h=some (v,h')):OpRes F P key a o l h w v h':=by
 have r1:=zal TO R e1
 have r2:=(zal TO R e2).cells
 simp only[XO.ev] at he
 generalize x.ev fr=A at *
 generalize hva:a.eval x1=va at *
 split at he
 ·rename_i m off
  split at he
  ·rename_i blk hblk
   split at he
   ·rename_i hc
    obtain⟨c1,c2,c3,c4⟩:=hc
    cases he
    cases r1 with
    | @p _ _ at_ hl =>
     have H:=S.holds m blk at_ hblk hl
     obtain⟨E,S'⟩:=zl3 S hblk hl c1 (y.ev fr).cells (a.eval x2).cells.toList off (by omega) c4 r2
     have hlen:(a.eval x2).cells.toList.length=n:=by rw[←r2.1];exact c2
     refine⟨l,undef,_,.inr ⟨?_,rfl⟩,E,S',zbm⟩
     have hcell:∀j,j<(a.eval x2).cells.toList.length→(w.cell? ⟨at_.b,at_.o+off+0+j,none⟩).isSome=true∧w.frozen? ⟨at_.b,at_.o+off+0+j,none⟩=false:=fun j hj=>by
      obtain⟨⟨u,hu⟩,hfz⟩:=H.room c1 (off+j) (by have:=H.len;omega)
      rw[show at_.o+off+0+j=at_.o+(off+j) by omega]
      exact⟨by rw[hu];rfl,hfz⟩
     have hst:=run_storeCells_cells (P:=P) at_.b (at_.o+off) (a.eval x2).cells.toList 0 w (fun j hj=>(hcell j hj).1) (fun j hj=>(hcell j hj).2) (r2.one c4)
     have hs2:¬(a.eval x2).cells.size≠n:=by simp at hlen;omega
     simp only[execOp,ho,hva,Instr.storeAt,Instr.sureAddr,pure_bind,Sem.run_bind,storeVar,zaq hn,Result.andThen_ok,if_neg hs2,hst,Sem.run_pure,Nat.add_zero]
   ·cases he
  ·cases he
 ·cases he
theorem zoO {t:TypeId} {x1:Operand} {x:X} (TO:TabOk key T l) (R:RelF key l fr a.tmps) (S:Sim key F l h w) (ho:o.op=.box t x1)
  (e1:cX T x1=some x) (hF:h'.next≤F) (he:(XO.box x).ev call fr h=some (v,h')):OpRes F P key a o l h w v h':=by
 have r1:=(zal TO R e1).cells
 simp only[XO.ev] at he
 split at he
 ·rename_i hc
  cases he
  have hlen:(x.ev fr).cells.length=(a.eval x1).cells.size:=by simpa using r1.1
  obtain⟨E,S'⟩:=zcz S hF (x.ev fr).cells (a.eval x1).cells t (by omega) hc (by rw[hlen,List.take_of_length_le (by simp)];exact r1)
  refine OpRes.mem ?_ E S' (.p (a:=⟨w.heap.size,0,(a.eval x1).cells.size,false⟩) (Loc.add_same _ _ _))
  simp[execOp,ho,Instr.box,newVar,newRow]
 ·cases he
theorem zo2 {t:TypeId} {z:List AV} (S:Sim key F l h w) (ho:o.op=.alloc t)
  (hz:zOf P t=some z) (hF:h'.next≤F) (he:(XO.new z).ev call fr h=some (v,h')):OpRes F P key a o l h w v h':=by
 simp only[XO.ev] at he
 split at he
 ·rename_i hc
  cases he
  unfold zOf at hz
  cases hi:P.info? t with
  | none=>simp[hi] at hz
  | some i =>
   simp[hi] at hz
   cases hzz:i.zero with
   | none=>simp[hzz] at hz
   | some zv =>
    simp[hzz] at hz
    have rz:RelL key l z zv.cells.toList:=zbl hz
    have zrun:(zeroValue t).run P w=.ok zv w:=by simp[zeroValue,typeInfo,hi,hzz]
    have hlen:z.length=zv.cells.size:=by simpa using rz.1
    obtain⟨E,S'⟩:=zcz S hF z zv.cells t (by omega) hc (by rw[hlen,List.take_of_length_le (by simp)];exact rz)
    refine OpRes.mem ?_ E S' (.p (a:=⟨w.heap.size,0,zv.cells.size,false⟩) (Loc.add_same _ _ _))
    simp[execOp,ho,Instr.alloc,zrun,newVar,newRow]
 ·cases he
end Go.Eng
namespace Go.Eng
variable {F : Nat} {key : Nat → Option FuncId} {P : Program} {T : Tab} {call : Nat → List AV → Hp → Option (AV × Hp)} {l : Loc} {fr : Fr} {a : Act} {h h' : Hp} {w : World} {o : Oper} {v : AV}
theorem ze9 {t : TypeId} {z : List AV} (hz : zOf P t = some z) (l : Loc) (w : World) : ∃ zv, (zeroValue t).run P w = .ok zv w ∧ RelL key l z zv.cells.toList ∧ z.all AV.scal = true := by
  unfold zOf at hz
  cases hi : P.info? t with
  | none => simp [hi] at hz
  | some i =>
    simp [hi] at hz
    cases hzz : i.zero with
    | none => simp [hzz] at hz
    | some zv =>
      simp [hzz] at hz
      exact ⟨zv, by simp [zeroValue, typeInfo, hi, hzz], zbl hz, zcc hz⟩
theorem zeD {l : Loc} {h : Hp} {w w' : World} (S : Sim key F l h w) (hs : w.heap.size ≤ w'.heap.size) (hb : ∀ b, b < w.heap.size → w'.heap[b]? = w.heap[b]?) (ho : w'.os = w.os) (ht : w'.tape = w.tape) (hu : w'.output = w.output) :
    Ext l h w l h w' ∧ Sim key F l h w' :=
  ⟨⟨l.le_refl, .refl h, fun _ _ e => .inl e, hs, ho, ht, hu, fun b hb1 _ => hb b hb1⟩,
    ⟨fun n blk a e1 e2 => (S.holds n blk a e1 e2).move l.le_refl hs (hb _ (S.lt n a e2)), S.apart, fun n a e => Nat.lt_of_lt_of_le (S.lt n a e) hs, S.dom, S.wf⟩⟩
theorem zdc {α : Type} (z : List α) : ∀ (n i : Nat) (hi : i < (List.replicate n z).flatten.length) (hm : i % z.length < z.length), (List.replicate n z).flatten[i] = z[i % z.length]
  | 0, i, hi, _ => by simp at hi
  | n + 1, i, hi, hm => by
    simp only [List.replicate_succ, List.flatten_cons]
    by_cases h : i < z.length
    · rw [List.getElem_append_left h]
      congr 1
      exact (Nat.mod_eq_of_lt h).symm
    · have hi' : i - z.length < (List.replicate n z).flatten.length := by
        simp only [List.replicate_succ, List.flatten_cons, List.length_append] at hi; omega
      rw [List.getElem_append_right (by omega)]
      have hmm : (i - z.length) % z.length = i % z.length := by
        conv => rhs; rw [show i = (i - z.length) + z.length by omega]
        rw [Nat.add_mod_right]
      rw [zdc z n (i - z.length) hi' (by rw [hmm]; exact hm)]
      congr 1
theorem zbR {α : Type} (z : List α) (n : Nat) : (List.replicate n z).flatten.length = n * z.length := by
  induction n with
  | zero => simp
  | succ n ih => simp only [List.replicate_succ, List.flatten_cons, List.length_append, ih, Nat.succ_mul]; omega
theorem zfK {z : List AV} {zc : Array Value} (r : RelL key l z zc.toList) (n sz : Nat) (hs : z.length = sz) (h0 : sz ≠ 0) :
    RelL key l (List.replicate n z).flatten ((Array.range (n * sz)).map (fun i => zc[i % zc.size]!)).toList := by
  have hzc : zc.size = sz := by have := r.1; simp at this; omega
  refine ⟨by rw [zbR, hs]; simp, fun i h1 h2 => ?_⟩
  have hm : i % z.length < z.length := Nat.mod_lt _ (by omega)
  rw [zdc z n i h1 hm]
  have hm' : i % zc.size < zc.size := Nat.mod_lt _ (by omega)
  have := r.2 (i % z.length) hm (by simp; omega)
  simp only [Array.toList_map, Array.toList_range, List.getElem_map, List.getElem_range]
  rw [getElem!_pos zc _ hm']
  have e : i % z.length = i % zc.size := by rw [hs, hzc]
  simp only [Array.getElem_toList] at this
  simpa only [e] using this
theorem zoP {t e : TypeId} {n z : Nat} {ps : Array (Nat × Operand)} {zs : List AV} {qs : List (Nat × Nat × X)} (TO : TabOk key T l) (R : RelF key l fr a.tmps) (S : Sim key F l h w) (ho : o.op = .buildSlice t n ps)
    (hu : P.underlying t = some (.slice e)) (hn : szOf P e = some z) (h0 : z ≠ 0) (hz : zOf P e = some zs) (hp : cPlaces T (fun i => some (i * z, z)) ps.toList = some qs)
    (hF : h'.next ≤ F) (he : (XO.bsl n z zs qs).ev call fr h = some (v, h')) : OpRes F P key a o l h w v h' := by
  obtain ⟨zv, zrun, rz, sz⟩ := ze9 (key := key) hz l w
  simp only [XO.ev] at he
  split at he
  · rename_i hc
    obtain ⟨c1, c2, c3⟩ := hc
    split at he
    · rename_i r hf
      split at he
      · rename_i hn0
        cases he
        subst hn0
        have h00 : 0 * z = 0 := Nat.zero_mul z
        have rr : RelL key l (List.replicate 0 zs).flatten ((Array.range (0 * z)).map fun i => (#[] : Array Value)[i % (#[] : Array Value).size]!).toList := by
          rw [h00]; exact ⟨by simp, fun i h1 => by simp at h1⟩
        have hsc : (List.replicate 0 zs).flatten.all AV.scal = true := rfl
        obtain ⟨cells', g1, g2, g3, g4⟩ := zcF TO R rr hp hf hsc
        obtain ⟨E, S'⟩ := zeD S (w' := w.alloc (.cells cells' e)) (by simp) (fun b hb => Go.RowKit.Below.heap_alloc _ _ _ hb) rfl rfl rfl
        refine OpRes.mem (val := .slice (some ⟨w.heap.size, 0, none⟩) 0 0) ?_ E S' (.se ⟨w.heap.size, 0, none⟩)
        simp only [execOp, ho, Instr.buildSlice, Sem.run_bind, run_underlying hu, Result.andThen_ok, zaq hn, Array.toList_map]
        rw [if_neg (by omega), if_pos h00]
        simp only [Sem.run_bind, Result.andThen_ok, Sem.run_pure]
        rw [g1]
        simp [newRow]
      · rename_i hn0
        cases he
        have rr := zfK rz n z c2 h0
        have hsc : (List.replicate n zs).flatten.all AV.scal = true := by
          rw [List.all_eq_true] at sz ⊢
          intro q hq
          simp only [List.mem_flatten, List.mem_replicate] at hq
          obtain ⟨y, ⟨_, rfl⟩, hq⟩ := hq
          exact sz q hq
        obtain ⟨cells', g1, g2, g3, g4⟩ := zcF TO R rr hp hf hsc
        have hlen : r.length = cells'.size := by simpa using g2.1
        obtain ⟨E, S'⟩ := zcz S hF r cells' e (by omega) g3 (by rw [hlen, List.take_of_length_le (by simp)]; exact g2)
        have hsz : cells'.size = n * z := by rw [← hlen, g4, zbR, c2]
        refine OpRes.mem ?_ E S' (.sl (cap' := n) (a := ⟨w.heap.size, 0, cells'.size, false⟩) (Loc.add_same _ _ _) (Nat.le_refl _) (by simp only; omega) (Nat.le_refl _))
        have hnz : ¬ n * z = 0 := by
          intro hq; rcases Nat.mul_eq_zero.1 hq with hq | hq
          · exact hn0 hq
          · exact h0 hq
        simp only [execOp, ho, Instr.buildSlice, Sem.run_bind, run_underlying hu, Result.andThen_ok, zaq hn, Array.toList_map]
        rw [if_neg (by omega), if_neg hnz]
        simp only [Sem.run_bind, zrun, Result.andThen_ok, Sem.run_pure]
        rw [g1]
        simp [newRow]
    · cases he
  · cases he
theorem zo1 {t e : TypeId} {z by_ : Nat} {x1 x2 : Operand} {zs : List AV} {x y : X} (TO : TabOk key T l) (R : RelF key l fr a.tmps) (S : Sim key F l h w) (ho : o.op = .makeSlice t x1 x2)
    (hu : P.underlying t = some (.slice e)) (hn : szOf P e = some z) (h0 : z ≠ 0) (hz : zOf P e = some zs) (hzl : zs.length = z) (hb : (P.info? e).map (·.bytes) = some by_) (e1 : cX T x1 = some x) (e2 : cX T x2 = some y)
    (hF : h'.next ≤ F) (he : (XO.msl zs by_ x y).ev call fr h = some (v, h')) : OpRes F P key a o l h w v h' := by
  obtain ⟨zv, zrun, rz, sz⟩ := ze9 (key := key) hz l w
  have r1 := zal TO R e1
  have r2 := zal TO R e2
  simp only [XO.ev] at he
  generalize x.ev fr = A at *
  generalize y.ev fr = B at *
  generalize hva : a.eval x1 = va at *
  generalize hvb : a.eval x2 = vb at *
  split at he
  · rename_i na nb ha hB
    obtain ⟨k1, rfl⟩ := zbL ha
    obtain ⟨k2, rfl⟩ := zbL hB
    cases r1; cases r2
    split at he
    · rename_i hc
      obtain ⟨c1, c2, c3, c4⟩ := hc
      obtain ⟨i, hi⟩ : ∃ i, P.info? e = some i := by
        cases hi : P.info? e with
        | none => simp [hi] at hb
        | some i => exact ⟨i, rfl⟩
      have hib : i.bytes = by_ := by simpa [hi] using hb
      have wa : IntKind.i64.wrap (na : Int) = na := IntWalk.i64_in _ (by omega)
      have wb : IntKind.i64.wrap (nb : Int) = nb := IntWalk.i64_in _ (by omega)
      have tl : ¬ ((i.bytes : Int) * (nb : Int) > 2 ^ 48) := by
        have h1 : ((nb * by_ : Nat) : Int) ≤ (281474976710656 : Nat) := Int.ofNat_le.2 c2
        rw [Int.natCast_mul, Int.mul_comm] at h1
        rw [hib]
        have e48 : (2 : Int) ^ 48 = (281474976710656 : Nat) := rfl
        rw [e48]; omega
      have ti : ∀ w' : World, (typeInfo e).run P w' = .ok i w' := fun w' => by simp [typeInfo, hi]
      have c0 : (decide ((nb : Int) < 0) || decide ((i.bytes : Int) * (nb : Int) > 2 ^ 48) || decide ((na : Int) < 0) || decide ((na : Int) > (nb : Int))) = false := by
        have g1 : decide ((nb : Int) < 0) = false := by simp
        have g2 : decide ((i.bytes : Int) * (nb : Int) > 2 ^ 48) = false := decide_eq_false tl
        have g3 : decide ((na : Int) < 0) = false := by simp
        have g4 : decide ((na : Int) > (nb : Int)) = false := decide_eq_false (by omega)
        rw [g1, g2, g3, g4]; rfl
      by_cases hb0 : nb = 0
      · rw [if_pos hb0] at he
        cases he
        have hna : na = 0 := by omega
        have hz0 : nb * z = 0 := by rw [hb0, Nat.zero_mul]
        obtain ⟨E, S'⟩ := zeD S (w' := w.alloc (.cells ((Array.range (nb * z)).map (fun i => (#[] : Array Value)[i % (#[] : Array Value).size]!)) e)) (by simp) (fun b hb => Go.RowKit.Below.heap_alloc _ _ _ hb) rfl rfl rfl
        refine OpRes.mem (val := .slice (some ⟨w.heap.size, 0, none⟩) na nb) ?_ E S' (by rw [hna, hb0]; exact .se ⟨w.heap.size, 0, none⟩)
        simp only [execOp, ho, hva, hvb, Instr.makeSlice, asInt, asIntOf, pure_bind, Sem.run_bind, Sem.run_pure, run_underlying hu, Result.andThen_ok, ti, wa, wb]
        rw [c0]
        simp only [Bool.false_eq_true, if_false, run_askRoom, Result.andThen_ok, zaq hn, Int.toNat_natCast, if_pos hz0, Sem.run_bind, Sem.run_pure]
        simp [newRow]
      · rw [if_neg hb0] at he
        cases he
        have rr := zfK rz nb z hzl h0
        have hsc : (List.replicate nb zs).flatten.all AV.scal = true := by
          rw [List.all_eq_true] at sz ⊢
          intro q hq
          simp only [List.mem_flatten, List.mem_replicate] at hq
          obtain ⟨y, ⟨_, rfl⟩, hq⟩ := hq
          exact sz q hq
        have hl : (List.replicate nb zs).flatten.length = nb * z := by rw [zbR, hzl]
        have hws : ((Array.range (nb * z)).map (fun i => zv.cells[i % zv.cells.size]!)).size = nb * z := by simp
        obtain ⟨E, S'⟩ := zcz S hF (List.replicate nb zs).flatten ((Array.range (nb * z)).map (fun i => zv.cells[i % zv.cells.size]!)) e (by rw [hl, hws]; exact Nat.le_refl _) hsc
          (by rw [List.take_of_length_le (by rw [hl]; simp)]; exact rr)
        refine OpRes.mem ?_ E S' (.sl (cap' := nb) (a := ⟨w.heap.size, 0, _, false⟩) (Loc.add_same _ _ _) (Nat.le_refl _) (by rw [hzl]; simp) c1)
        have hnz : ¬ nb * z = 0 := by
          intro hq; rcases Nat.mul_eq_zero.1 hq with hq | hq
          · exact hb0 hq
          · exact h0 hq
        simp only [execOp, ho, hva, hvb, Instr.makeSlice, asInt, asIntOf, pure_bind, Sem.run_bind, Sem.run_pure, run_underlying hu, Result.andThen_ok, ti, wa, wb]
        rw [c0]
        simp only [Bool.false_eq_true, if_false, run_askRoom, Result.andThen_ok, zaq hn, Int.toNat_natCast, if_neg hnz, Sem.run_bind, zrun, Sem.run_pure]
        simp [newRow]
    · cases he
  · cases he
end Go.Eng
namespace Go.Eng
variable {F:Nat} {key:Nat→Option FuncId} {P:Program} {T:Tab} {call:Nat→List AV→Hp→Option (AV×Hp)} {l:Loc} {fr:Fr} {a:Act} {h h':Hp} {w:World} {o:Oper} {v:AV}
theorem zlR (f:Int→UInt8):∀(ns:List Int) (s:ByteArray),(ns.foldl (fun r n=>r.push (f n)) s).data.toList=s.data.toList++ns.map f
 | [],s=>by simp
 | n::ns,s=>by
  rw[List.foldl_cons,zlR f ns]
  simp[ByteArray.push]
theorem zdA:∀{ls:List AV} {bs:List UInt8} {ws:List Value},bytesOf ls=some bs→RelL key l ls ws→∃ns:List Int,ws=ns.map (Value.int .u8)∧bs=ns.map fun n=>UInt8.ofNat n.toNat
 | [],bs,ws,h,r=>by
  simp[bytesOf] at h;subst h
  have:ws=[]:=List.length_eq_zero_iff.1 (by rw[←r.1];rfl)
  exact⟨[],by rw[this];rfl,rfl⟩
 | x::ls,bs,ws,h,r=>by
  unfold bytesOf at h
  split at h
  ·rename_i heq;cases heq
  ·rename_i n ls' heq
   cases heq
   cases hb:bytesOf ls with
   | none=>simp[hb] at h
   | some bs' =>
    simp[hb] at h;subst h
    cases ws with
    | nil=>simp[RelL] at r
    | cons wv ws =>
     have r1:Rel key l (.i .u8 n) wv:=r.2 0 (by simp) (by simp)
     have r2:RelL key l ls ws:=⟨by simpa using r.1,fun i h1 h2=>r.2 (i+1) (Nat.succ_lt_succ h1) (Nat.succ_lt_succ h2)⟩
     obtain⟨ns,e1,e2⟩:=zdA hb r2
     cases r1
     exact⟨n::ns,by rw[e1];rfl,by rw[e2];rfl⟩
  ·cases h
theorem zaL (ad:Addr) (w:World):(loadCells ad 0).run P w=.ok #[] w:=by simpa using run_loadCells_list (P:=P) w ad [] (by simp)
theorem zoN {s d e:TypeId} {x1:Operand} {x:X} (TO:TabOk key T l) (R:RelF key l fr a.tmps) (S:Sim key F l h w) (ho:o.op=.convert s d x1)
  (hs:P.underlying s=some (.slice e)) (hd:P.underlying d=some .string) (hee:P.underlying e=some (.int .u8)) (e1:cX T x1=some x) (he:(XO.b2s x).ev call fr h=some (v,h')):OpRes F P key a o l h w v h':=by
 have r1:=zal TO R e1
 simp only[XO.ev] at he
 generalize x.ev fr=A at *
 generalize hva:a.eval x1=va at *
 have conv:∀(b:Option Addr) (n c:Nat),(convert s d (.slice b n c)).run P w=(Conv.bytesToString (.slice b n c)).run P w:=fun b n c=>by
  simp only[convert,Sem.run_bind,run_underlying hs,run_underlying hd,Result.andThen_ok,run_underlying hee]
 have empt:∀(ad:Addr) (c:Nat),(Conv.bytesToString (.slice (some ad) 0 c)).run P w=.ok (.string .empty) w:=fun ad c=>by
  have:=run_bytesToString (P:=P) w ad 0 c [] (by simpa using zaL (P:=P) ad w)
  simpa using this
 have hemp:Rel key l (.s []) (.string .empty):=by simpa using Rel.s (key:=key) (l:=l) ByteArray.empty
 split at he
 ·cases he;cases r1
  exact OpRes.pure S (by simp only[execOp,ho,hva,Sem.run_bind,conv,Conv.bytesToString,Sem.run_pure,Result.andThen_ok]) hemp
 ·cases he;cases r1
  exact OpRes.pure S (by simp only[execOp,ho,hva,Sem.run_bind,conv,empt,Sem.run_pure,Result.andThen_ok]) hemp
 ·cases he;cases r1
  exact OpRes.pure S (by simp only[execOp,ho,hva,Sem.run_bind,conv,empt,Sem.run_pure,Result.andThen_ok]) hemp
 ·rename_i n off ln cp z
  split at he
  ·rename_i h0
   subst h0
   cases he
   cases r1
   exact OpRes.pure S (by simp only[execOp,ho,hva,Sem.run_bind,conv,empt,Sem.run_pure,Result.andThen_ok]) hemp
  split at he
  ·rename_i hz;subst hz
   split at he
   ·rename_i bs hb
    cases he
    cases hrd:h.rd n off ln with
    | none=>simp[hrd] at hb
    | some ls =>
     simp[hrd] at hb
     cases r1 with
     | @sl _ _ _ _ cap' _ at_ hl p1 p2 p3 =>
      obtain⟨ws,q1,q2,q3,_⟩:=zeW S hrd hl
      obtain⟨ns,n1,n2⟩:=zdA hb q1
      have hlc:=run_loadCells_list (P:=P) w ⟨at_.b,at_.o+off,none⟩ ws q3
      rw[q2,n1] at hlc
      have hrun:=run_bytesToString (P:=P) w ⟨at_.b,at_.o+off,none⟩ ln cap' ns hlc
      refine OpRes.pure S (val:=.string (ns.foldl (fun r n=>r.push (UInt8.ofNat n.toNat)) ByteArray.empty)) (by simp only[execOp,ho,hva,Sem.run_bind];rw[conv,hrun];rfl) ?_
      have:=Rel.s (key:=key) (l:=l) (ns.foldl (fun r n=>r.push (UInt8.ofNat n.toNat)) ByteArray.empty)
      rwa [zlR (fun n=>UInt8.ofNat n.toNat),show ByteArray.empty.data.toList=([]:List UInt8) by rfl,List.nil_append,←n2] at this
   ·cases he
  ·cases he
 ·cases he
theorem zge {z n:Nat} {X0:AV} {x:Value} {cs:List AV} (S:Sim key F l h w) (rx:Rel key l X0 x) (hs:srcA h z X0=some (n,cs)) :
  (Builtin.lenOf x).run P w=.ok n w∧cs.length=n*z∧∃ws:List Value,RelL key l cs ws∧(∀v∈ws,v.oneCell'=true)∧cs.all AV.scal=true∧∀k,k≤n→(Builtin.firstCells z k x).run P w=.ok (ws.take (k*z)).toArray w:=by
 unfold srcA at hs
 split at hs
 ·rename_i m off ln cp z'
  split at hs
  ·rename_i h0
   subst h0
   cases hs
   cases rx
   refine⟨by simp[Builtin.lenOf],by simp,[],.nil,by simp,by simp,fun k hk=>?_⟩
   have:k=0:=by omega
   subst this
   simpa [Builtin.firstCells] using zaL _ _
  split at hs
  ·rename_i hz;subst hz
   cases hrd:h.rd m off (ln*z') with
   | none=>simp[hrd] at hs
   | some ls =>
    simp[hrd] at hs
    obtain⟨rfl,rfl⟩:=hs
    cases rx with
    | @sl _ _ _ _ cap' _ at_ hl p1 p2 p3 =>
     obtain⟨ws,q1,q2,q3,q4⟩:=zeW S hrd hl
     refine⟨by simp[Builtin.lenOf],by rw[q1.1];exact q2,ws,q1,q4,?_,fun k hk=>?_⟩
     ·unfold Hp.rd at hrd
      split at hrd
      ·rename_i b hb
       split at hrd
       ·cases hrd
        have H:=S.holds m b at_ hb hl
        rw[List.all_eq_true]
        intro y hy
        obtain⟨j,hj,e⟩:=List.mem_iff_getElem.1 (List.mem_of_mem_drop (List.mem_of_mem_take hy))
        rw[←e];exact H.scal j hj
       ·cases hrd
      ·cases hrd
     ·have hkz:k*z'≤ln*z':=Nat.mul_le_mul_right _ hk
      have hl2:(ws.take (k*z')).length=k*z':=by rw[List.length_take,q2];omega
      have:=run_loadCells_list (P:=P) w ⟨at_.b,at_.o+off,none⟩ (ws.take (k*z')) (fun j u hj=>q3 j u (by
       rw[List.getElem?_take] at hj
       split at hj
       ·exact hj
       ·cases hj))
      rw[hl2] at this
      simpa [Builtin.firstCells] using this
  ·cases hs
 all_goals first
  | (cases hs;done)
  | skip
 ·cases hs;cases rx
  refine⟨by simp[Builtin.lenOf],by simp,[],.nil,by simp,by simp,fun k hk=>by simp[Builtin.firstCells]⟩
 ·cases hs;cases rx
  refine⟨by simp[Builtin.lenOf],by simp,[],.nil,by simp,by simp,fun k hk=>?_⟩
  have:k=0:=by omega
  subst this
  simp[Builtin.firstCells,zaL]
 ·cases hs;cases rx
  refine⟨by simp[Builtin.lenOf],by simp,[],.nil,by simp,by simp,fun k hk=>?_⟩
  have:k=0:=by omega
  subst this
  simp[Builtin.firstCells,zaL]
 ·split at hs
  ·rename_i hz;subst hz
   cases hs
   cases rx with
   | s bs =>
    have hsz:bs.data.toList.length=bs.size:=Array.length_toList
    refine⟨by simp[Builtin.lenOf,hsz],by simp[u8s],bs.data.toList.map fun b=>.int .u8 b.toNat,⟨by simp[u8s],fun i h1 h2=>?_⟩,by simp[Value.oneCell'],by rw[List.all_eq_true];intro q hq;simp only[u8s,List.mem_map] at hq;obtain⟨_,_,rfl⟩:=hq;rfl,fun k hk=>?_⟩
    ·simp only[u8s,List.getElem_map];exact .i _ _
    ·simp only[Builtin.firstCells,Sem.run_pure,Nat.mul_one]
     congr 1
     apply Array.ext'
     simp[ByteArray.data_extract,Array.toList_extract,List.extract_eq_take_drop]
  ·cases hs
theorem zoQ {t t2 e:TypeId} {z:Nat} {x1 x2:Operand} {x y:X} (TO:TabOk key T l) (R:RelF key l fr a.tmps) (S:Sim key F l h w)
  (ho:o.op=.call { callee:=.builtin .copy,args := #[x1,x2],argTypes := #[t,t2] }) (hu:P.underlying t=some (.slice e)) (hn:szOf P e=some z) (e1:cX T x1=some x) (e2:cX T x2=some y)
  (he:(XO.cpy z x y).ev call fr h=some (v,h')):OpRes F P key a o l h w v h':=by
 have r1:=zal TO R e1
 have r2:=zal TO R e2
 simp only[XO.ev] at he
 generalize x.ev fr=A at *
 generalize y.ev fr=B at *
 generalize hva:a.eval x1=va at *
 generalize hvb:a.eval x2=vb at *
 have unf:(execOp a.eval o).run P w=((Builtin.copy_ #[t,t2] o.type #[va,vb]).run P w).andThen fun q w'=>.ok (.value q) w':=by
  simp[execOp,ho,hva,hvb,resolve,invoke,builtin]
 unfold cpyA at he
 split at he
 ·cases he
 ·rename_i n cs hsrc
  obtain⟨g1,g2,ws,g3,g4,g5,g6⟩:=zge (P:=P) S r2 hsrc
  have none0:∀(b:Option Addr) (c:Nat),va=.slice b 0 c→(execOp a.eval o).run P w=.ok (.value (.int .i64 0)) w:=fun b c hb=>by
   rw[unf,hb]
   have h0:=g6 0 (by omega)
   simp at h0
   cases b<;>simp[Builtin.copy_,run_underlying hu,g1,zaq hn,h0,storeCells,goInt]
  split at he
  ·cases he;cases r1;exact OpRes.pure S (none0 _ _ rfl) (.i _ _)
  ·cases he;cases r1;exact OpRes.pure S (none0 _ _ rfl) (.i _ _)
  ·cases he;cases r1;exact OpRes.pure S (none0 _ _ rfl) (.i _ _)
  ·rename_i m off ln cp z'
   split at he
   ·cases he
   ·rename_i hzz
    have hz':z'=z:=by simpa using hzz
    subst hz'
    split at he
    ·rename_i blk hblk
     split at he
     ·rename_i hc
      cases he
      cases r1 with
      | @sl _ _ _ _ cap' _ at_ hl p1 p2 p3 =>
       have H:=S.holds m blk at_ hblk hl
       have hk:min n ln≤n:=Nat.min_le_left _ _
       have hkz:min n ln*z'≤n*z':=Nat.mul_le_mul_right _ hk
       have hlw:ws.length=n*z':=by rw[←g3.1];exact g2
       have hl2:(ws.take (min n ln*z')).length=min n ln*z':=by rw[List.length_take,hlw];omega
       have hl1:(cs.take (min n ln*z')).length=min n ln*z':=by rw[List.length_take,g2];omega
       have hsc:(cs.take (min n ln*z')).all AV.scal=true:=by
        rw[List.all_eq_true] at g5 ⊢
        exact fun q hq=>g5 q (List.mem_of_mem_take hq)
       obtain⟨E,S'⟩:=zl3 S hblk hl hc.1 (cs.take (min n ln*z')) (ws.take (min n ln*z')) off (by rw[hl1];exact hc.2) hsc (g3.take _)
       have hcell:∀j,j<(ws.take (min n ln*z')).length→(w.cell? ⟨at_.b,at_.o+off+0+j,none⟩).isSome=true∧w.frozen? ⟨at_.b,at_.o+off+0+j,none⟩=false:=fun j hj=>by
        rw[hl2] at hj
        obtain⟨⟨u,hu'⟩,hfz⟩:=H.room hc.1 (off+j) (by have:=H.len;omega)
        rw[show at_.o+off+0+j=at_.o+(off+j) by omega]
        exact⟨by rw[hu'];rfl,hfz⟩
       have hst:=run_storeCells_cells (P:=P) at_.b (at_.o+off) (ws.take (min n ln*z')) 0 w (fun j hj=>(hcell j hj).1) (fun j hj=>(hcell j hj).2) (fun q hq=>g4 q (List.mem_of_mem_take hq))
       refine OpRes.mem (val:=.int .i64 (min n ln:Nat)) ?_ E S' (.i _ _)
       rw[unf]
       have hmin:Nat.min n ln=min n ln:=rfl
       simp[Builtin.copy_,run_underlying hu,g1,zaq hn,hmin,g6 _ hk,goInt]
       rw[Nat.add_zero] at hst
       rw[hst]
       rfl
     ·cases he
    ·cases he
  ·cases he
end Go.Eng
namespace Go.Eng
variable {F:Nat} {key:Nat→Option FuncId} {P:Program} {T:Tab} {call:Nat→List AV→Hp→Option (AV×Hp)} {l:Loc} {fr:Fr} {a:Act} {h h':Hp} {w:World} {o:Oper} {v:AV}
theorem zct (w:World) (n c:Nat) (e:TypeId):n≤grownCap w n c e:=by
 unfold grownCap Question.cut
 exact Nat.le_add_right _ _
theorem zcp (z:Array Value) (n:Nat):(Builtin.zeroCells z n).size=n*z.size:=by simp[Builtin.zeroCells]
def srcTy (P:Program) (u:TypeId):Prop:=P.underlying u=some .string∨∃e,P.underlying u=some (.slice e)
theorem zd5 {t u e:TypeId} {ty:TypeId} {z n:Nat} {zv:Value} {i:TypeInfo} (hu:P.underlying t=some (.slice e)) (hud:srcTy P u) (hi:P.info? e=some i) (hs:i.size=z)
  (zrun:∀w:World,(zeroValue e).run P w=.ok zv w) (hb0:i.bytes≠0) {base:Option Addr} {sLen sCap:Nat} {x:Value} {olds news:List Value} (hlen:(Builtin.lenOf x).run P w=.ok n w)
  (hold:(Builtin.firstCells z sLen (.slice base sLen sCap)).run P w.drew=.ok olds.toArray w.drew) (hnew:(Builtin.firstCells z n x).run P w.drew=.ok news.toArray w.drew)
  (hg:sCap<sLen+n) (hfit:(sLen+n)*i.bytes≤140737488355328) :
  (Builtin.append_ #[t,u] ty #[.slice base sLen sCap,x]).run P w=.ok (.slice (some ⟨w.heap.size,0,none⟩) (sLen+n) (grownCap w (sLen+n) sCap e))
   (w.drew.alloc (.cells (olds.toArray++news.toArray++Builtin.zeroCells zv.cells (grownCap w (sLen+n) sCap e-(sLen+n))) e)):=by
 have hn:¬(sLen+n≤sCap):=by omega
 have hsm:sLen+n≤140737488355328:=by
  have:(sLen+n)*1≤(sLen+n)*i.bytes:=Nat.mul_le_mul_left _ (by omega)
  omega
 have h63':¬(9223372036854775807<((sLen:Int)+(n:Int))):=by omega
 have h48:=growslice_fits hg hfit
 have h48':¬(281474976710656<Builtin.nextslicecap (sLen+n) sCap*i.bytes):=by omega
 rcases hud with hud|⟨e',hud⟩
 ·simp[Builtin.append_,run_underlying hu,run_underlying hud,sizeOf,typeInfo,hi,hs,hlen,hn,h63',h48',Question.forced,hold,hnew,zrun,newRow,grownCap,hb0]
  congr 2
  apply Array.ext'
  simp
 ·simp[Builtin.append_,run_underlying hu,run_underlying hud,sizeOf,typeInfo,hi,hs,hlen,hn,h63',h48',Question.forced,hold,hnew,zrun,newRow,grownCap,hb0]
  congr 2
  apply Array.ext'
  simp
theorem zcq {t u e:TypeId} {ty:TypeId} {z n:Nat} (hu:P.underlying t=some (.slice e)) (hud:srcTy P u) (hs:szOf P e=some z)
  {base:Option Addr} {sLen sCap:Nat} {x:Value} {news:List Value} {w':World} (hlen:(Builtin.lenOf x).run P w=.ok n w)
  (hnew:(Builtin.firstCells z n x).run P w=.ok news.toArray w) (hg:sLen+n≤sCap) (hst:(match base with|some a=>storeCells (a.add (sLen*z)) news|none=>pure ()).run P w=.ok () w') :
  (Builtin.append_ #[t,u] ty #[.slice base sLen sCap,x]).run P w=.ok (.slice base (sLen+n) sCap) w':=by
 rcases hud with hud|⟨e',hud⟩
 all_goals
  cases base with
  | none =>
   simp at hst;subst hst
   simp[Builtin.append_,run_underlying hu,run_underlying hud,zaq hs,hlen,hg,hnew]
  | some b =>
   simp only at hst
   simp[Builtin.append_,run_underlying hu,run_underlying hud,zaq hs,hlen,hg,hnew,hst]
theorem zgz {h:Hp} (S:Sim key F l h w) (hF:h.next<F) {cs ds:List AV} {olds news:List Value} {zv:Value} {e:TypeId} {c:Nat} (r1:RelL key l cs olds) (r2:RelL key l ds news) (s1:cs.all AV.scal=true) (s2:ds.all AV.scal=true) :
  Ext l h w (l.add h.next ⟨w.heap.size,0,(olds.toArray++news.toArray++Builtin.zeroCells zv.cells c).size,false⟩) (h.push (cs++ds)) (w.drew.alloc (.cells (olds.toArray++news.toArray++Builtin.zeroCells zv.cells c) e)) ∧
  Sim key F (l.add h.next ⟨w.heap.size,0,(olds.toArray++news.toArray++Builtin.zeroCells zv.cells c).size,false⟩) (h.push (cs++ds)) (w.drew.alloc (.cells (olds.toArray++news.toArray++Builtin.zeroCells zv.cells c) e)):=by
 have S0:Sim key F l h w.drew:=S.still rfl
 have E0:Ext l h w l h w.drew:=Ext.still rfl rfl rfl rfl
 have hl:(cs++ds).length=olds.length+news.length:=by rw[List.length_append,r1.1,r2.1]
 obtain⟨E1,S1⟩:=zcz S0 hF (cs++ds) (olds.toArray++news.toArray++Builtin.zeroCells zv.cells c) e (by rw[hl];simp only[Array.size_append,List.size_toArray];omega) (by rw[List.all_append,s1,s2];rfl)
  (by
   rw[hl]
   have:=r1.append r2
   have e0:(olds.toArray++news.toArray++Builtin.zeroCells zv.cells c).toList.take (olds.length+news.length)=olds++news:=by
    simp only[Array.toList_append]
    rw[List.take_left' (by simp)]
   rw[e0];exact this)
 exact⟨E0.trans (S.hd S0.wf (Nat.le_of_lt hF)) E1,S1⟩
theorem zoM {t u e:TypeId} {z by_:Nat} {zs:List AV} {x1 x2:Operand} {x y:X} (TO:TabOk key T l) (R:RelF key l fr a.tmps) (S:Sim key F l h w)
  (ho:o.op=.call { callee:=.builtin .append,args := #[x1,x2],argTypes := #[t,u] }) (hu:P.underlying t=some (.slice e)) (hud:srcTy P u) (hn:szOf P e=some z) (h0:z≠0)
  (hz:zOf P e=some zs) (hzl:zs.length=z) (hb:(P.info? e).map (·.bytes)=some by_) (hb0:by_≠0) (e1:cX T x1=some x) (e2:cX T x2=some y)
  (hF:h'.next≤F) (he:(XO.app z by_ x y).ev call fr h=some (v,h')):OpRes F P key a o l h w v h':=by
 obtain⟨zv,zr0,rz,sz⟩:=ze9 (key:=key) hz l w
 have zrun:∀w':World,(zeroValue e).run P w'=.ok zv w':=fun w'=>by
  obtain⟨zv',zr',_,_⟩:=ze9 (key:=key) hz l w'
  have:zv'=zv:=by
   unfold zeroValue typeInfo at zr0 zr'
   cases hi:P.info? e with
   | none=>simp[hi] at zr0
   | some i =>
    cases hzz:i.zero with
    | none=>simp[hi,hzz] at zr0
    | some q=>simp[hi,hzz] at zr0 zr';rw[←zr0,←zr']
  rw[←this];exact zr'
 have hzc:zv.cells.size=z:=by have:=rz.1;simp at this;omega
 obtain⟨i,hi⟩:∃i,P.info? e=some i:=by
  cases hi:P.info? e with
  | none=>simp[hi] at hb
  | some i=>exact⟨i,rfl⟩
 have hib:i.bytes=by_:=by simpa [hi] using hb
 have hiz:i.size=z:=by
  obtain⟨i',hi',hs'⟩:=zdV hn
  rw[hi] at hi';cases hi';exact hs'
 have r1:=zal TO R e1
 have r2:=zal TO R e2
 simp only[XO.ev] at he
 generalize x.ev fr=A at *
 generalize y.ev fr=B at *
 generalize hva:a.eval x1=va at *
 generalize hvb:a.eval x2=vb at *
 have unf:(execOp a.eval o).run P w=((Builtin.append_ #[t,u] o.type #[va,vb]).run P w).andThen fun q w'=>.ok (.value q) w':=by
  simp[execOp,ho,hva,hvb,resolve,invoke,builtin]
 have S0:Sim key F l h w.drew:=S.still rfl
 unfold appA at he
 split at he
 ·cases he
 ·rename_i n cs hsrc
  obtain⟨g1,g2,ws,g3,g4,g5,g6⟩:=zge (P:=P) S r2 hsrc
  obtain⟨g1',_,ws',g3',g4',_,g6'⟩:=zge (P:=P) S0 r2 hsrc
  have hwl:ws.length=n*z:=by rw[←g3.1];exact g2
  have hwl':ws'.length=n*z:=by rw[←g3'.1];exact g2
  have new':(Builtin.firstCells z n vb).run P w.drew=.ok ws'.toArray w.drew:=by
   rw[g6' n (Nat.le_refl _),List.take_of_length_le (by omega)]
  have new0:(Builtin.firstCells z n vb).run P w=.ok ws.toArray w:=by
   rw[g6 n (Nat.le_refl _),List.take_of_length_le (by omega)]
  have base0:∀(b:Option Addr),va=.slice b 0 0→(A=.sn∨A=.se)→Rel key l A va →
    (if n=0 then some (A,h) else if n*by_≤140737488355328 then some (AV.sl h.next 0 n n z,h.push cs) else none)=some (v,h')→OpRes F P key a o l h w v h':=fun b hvb' hA rA he=>by
   have hF0:=hF
   split at he
   ·rename_i hn0
    cases he
    have hws0:ws=[]:=List.length_eq_zero_iff.1 (by rw[hwl,hn0,Nat.zero_mul])
    have hrun:=zcq (P:=P) (ty:=o.type) (base:=b) (sLen:=0) (sCap:=0) (w':=w) hu hud hn g1 new0 (by omega) (by rw[hws0];cases b<;>rfl)
    refine OpRes.pure S (val:=.slice b (0+n) 0) (by rw[unf,hvb',hrun];rfl) ?_
    rw[hn0,hvb'] at *
    exact rA
   ·rename_i hn0
    split at he
    ·rename_i hfit
     cases he
     have old0:(Builtin.firstCells z 0 (.slice b 0 0)).run P w.drew=.ok ([]:List Value).toArray w.drew:=by
      cases b<;>simp[Builtin.firstCells,zaL]
     have hrun:=zd5 (P:=P) (ty:=o.type) (base:=b) (sLen:=0) (sCap:=0) (x:=vb) hu hud hi hiz zrun (by rw[hib];exact hb0) g1 old0 new' (by omega) (by rw[hib];simpa using hfit)
     simp only[Nat.zero_add] at hrun
     obtain⟨E,S'⟩:=zgz S hF0 (e:=e) (zv:=zv) (c:=grownCap w n 0 e-n) (cs:=[]) (ds:=cs) (olds:=[]) .nil g3' rfl g5
     rw[List.nil_append] at E S'
     have hgc:=zct w n 0 e
     refine OpRes.mem (by rw[unf,hvb',hrun];rfl) E S' ?_
     have hszz:(([]:List Value).toArray++ws'.toArray++Builtin.zeroCells zv.cells (grownCap w n 0 e-n)).size=grownCap w n 0 e*z:=by
      simp only[Array.size_append,List.size_toArray,List.length_nil,hwl',zcp,hzc,Nat.zero_add]
      rw[←Nat.add_mul];congr 1;omega
     have:=Rel.sl (key:=key) (n:=h.next) (off:=0) (len:=n) (cap:=n) (cap':=grownCap w n 0 e) (z:=z) (Loc.add_same l h.next ⟨w.heap.size,0,(([]:List Value).toArray++ws'.toArray++Builtin.zeroCells zv.cells (grownCap w n 0 e-n)).size,false⟩)
      (by omega) (by simp only[hszz];omega) (Nat.le_refl _)
     simpa using this
    ·cases he
  split at he
  ·refine base0 none ?_ (.inl rfl) r1 he
   cases r1;rfl
  ·cases r1 with
   | se ad=>exact base0 (some ad) rfl (.inr rfl) (.se ad) he
  ·rename_i m off ln cp z'
   split at he
   ·cases he
   ·rename_i hzz
    have hz':z'=z:=by simpa using hzz
    subst hz'
    cases r1 with
    | @sl _ _ _ _ cap' _ at_ hl p1 p2 p3 =>
     split at he
     ·rename_i hn0
      cases he
      have hws0:ws=[]:=List.length_eq_zero_iff.1 (by rw[hwl,hn0,Nat.zero_mul])
      have hrun:=zcq (P:=P) (ty:=o.type) (base:=some ⟨at_.b,at_.o+off,none⟩) (sLen:=ln) (sCap:=cap') (w':=w) hu hud hn g1 new0 (by omega) (by rw[hws0];rfl)
      refine OpRes.pure S (val:=.slice (some ⟨at_.b,at_.o+off,none⟩) (ln+n) cap') (by rw[unf,hrun];rfl) ?_
      rw[hn0]
      exact .sl hl p1 p2 p3
     ·rename_i hn0
      split at he
      ·rename_i blk hblk
       split at he
       ·rename_i hc
        obtain⟨c1,c2,c3⟩:=hc
        cases he
        have H:=S.holds m blk at_ hblk hl
        by_cases hroom:ln+n≤cap'
        ·
         have hr2:off+ln*z'+ws.length≤at_.n:=by
          rw[hwl,Nat.add_assoc,←Nat.add_mul]
          have:=Nat.mul_le_mul_right z' hroom
          omega
         obtain⟨E,S'⟩:=zhs S hF hblk hl c1 cs ws off (ln*z') c2 hr2 g5 g3
         have hcell:∀j,j<ws.length→(w.cell? ⟨at_.b,at_.o+off+ln*z'+0+j,none⟩).isSome=true∧w.frozen? ⟨at_.b,at_.o+off+ln*z'+0+j,none⟩=false:=fun j hj=>by
          obtain⟨⟨q,hq⟩,hfz⟩:=H.room c1 (off+ln*z'+j) (by omega)
          rw[show at_.o+off+ln*z'+0+j=at_.o+(off+ln*z'+j) by omega]
          exact⟨by rw[hq];rfl,hfz⟩
         have hst:=run_storeCells_cells (P:=P) at_.b (at_.o+off+ln*z') ws 0 w (fun j hj=>(hcell j hj).1) (fun j hj=>(hcell j hj).2) g4
         have hrun:=zcq (P:=P) (ty:=o.type) (base:=some ⟨at_.b,at_.o+off,none⟩) (sLen:=ln) (sCap:=cap') hu hud hn g1 new0 hroom (by simp only[zb4];exact hst)
         refine OpRes.mem (val:=.slice (some ⟨at_.b,at_.o+off,none⟩) (ln+n) cap') (by rw[unf,hrun];rfl) E S' ?_
         have:=Rel.sl (key:=key) (n:=h.next) (off:=0) (len:=ln+n) (cap:=ln+n) (cap':=cap') (z:=z') (Loc.add_same l h.next ⟨at_.b,at_.o+off,at_.n-off,false⟩) hroom (by simp only;omega) (Nat.le_refl _)
         simpa using this
        ·
         obtain⟨Ek,Sk⟩:=zmJ S m
         obtain⟨olds,q1,q2,q3,q4⟩:=(S0.holds m blk at_ hblk hl).read off (ln*z') c2
         have old':(Builtin.firstCells z' ln (.slice (some ⟨at_.b,at_.o+off,none⟩) ln cap')).run P w.drew=.ok olds.toArray w.drew:=by
          have:=run_loadCells_list (P:=P) w.drew ⟨at_.b,at_.o+off,none⟩ olds q3
          rw[q2] at this
          simpa [Builtin.firstCells] using this
         have hs1:((blk.v.drop off).take (ln*z')).all AV.scal=true:=by
          rw[List.all_eq_true]
          intro q hq
          obtain⟨j,hj,e⟩:=List.mem_iff_getElem.1 (List.mem_of_mem_drop (List.mem_of_mem_take hq))
          rw[←e];exact H.scal j hj
         have hrun:=zd5 (P:=P) (ty:=o.type) (base:=some ⟨at_.b,at_.o+off,none⟩) (sLen:=ln) (sCap:=cap') (x:=vb) hu hud hi hiz zrun (by rw[hib];exact hb0) g1 old' new' (by omega) (by rw[hib];exact c3)
         obtain⟨E,S'⟩:=zgz Sk hF (e:=e) (zv:=zv) (c:=grownCap w (ln+n) cap' e-(ln+n)) q1 g3' hs1 g5
         have hgc:=zct w (ln+n) cap' e
         refine OpRes.mem (by rw[unf,hrun];rfl) (Ek.trans (S.hd Sk.wf (Nat.le_of_succ_le hF)) E) S' ?_
         have hszz:(olds.toArray++ws'.toArray++Builtin.zeroCells zv.cells (grownCap w (ln+n) cap' e-(ln+n))).size=grownCap w (ln+n) cap' e*z':=by
          simp only[Array.size_append,List.size_toArray,q2,hwl',zcp,hzc]
          rw[←Nat.add_mul,←Nat.add_mul];congr 1;omega
         have:=Rel.sl (key:=key) (n:=h.next) (off:=0) (len:=ln+n) (cap:=ln+n) (cap':=grownCap w (ln+n) cap' e) (z:=z') (Loc.add_same l h.next ⟨w.heap.size,0,(olds.toArray++ws'.toArray++Builtin.zeroCells zv.cells (grownCap w (ln+n) cap' e-(ln+n))).size,false⟩)
          (by omega) (by simp only[hszz];omega) (Nat.le_refl _)
         simpa [Hp.kill] using this
       ·cases he
      ·cases he
  ·cases he
end Go.Eng
namespace Go.Eng
variable {F:Nat} {key:Nat→Option FuncId} {P:Program} {T:Tab} {call:Nat→List AV→Hp→Option (AV×Hp)} {l:Loc} {fr:Fr} {a:Act} {h h':Hp} {w:World} {o:Oper} {v:AV}
theorem zo3 {s d e:TypeId} {x1:Operand} {x:X} (TO:TabOk key T l) (R:RelF key l fr a.tmps) (S:Sim key F l h w) (ho:o.op=.convert s d x1)
  (hs:P.underlying s=some .string) (hd:P.underlying d=some (.slice e)) (hee:P.underlying e=some (.int .u8)) (e1:cX T x1=some x) (hF:h'.next≤F) (he:(XO.s2b x).ev call fr h=some (v,h')):OpRes F P key a o l h w v h':=by
 have r1:=zal TO R e1
 simp only[XO.ev] at he
 generalize x.ev fr=A at *
 generalize hva:a.eval x1=va at *
 split at he
 ·cases r1 with
  | s bs =>
   have hrun:=Lib.run_convert_string_bytes (P:=P) w s d e bs hs hd hee
   have hsz:bs.data.toList.length=bs.size:=Array.length_toList
   have hgc:=zct w bs.size 0 e
   have hcs:(Lib.bytesCells w e bs).size=grownCap w bs.size 0 e:=by
    simp only[Lib.bytesCells,Array.size_append,Array.size_map,Array.size_replicate]
    show bs.size+(grownCap w bs.size 0 e-bs.size)=_
    omega
   have hex:(execOp a.eval o).run P w=.ok (.value (.slice (some ⟨w.heap.size,0,none⟩) bs.size (grownCap w bs.size 0 e))) (Lib.bytesWorld w e bs):=by
    simp only[execOp,ho,hva,Sem.run_bind,hrun,Result.andThen_ok,Sem.run_pure]
   have hnew:=Lib.bytesWorld_at_new w e bs
   have hcell:∀i (hi:i<grownCap w bs.size 0 e),(Lib.bytesWorld w e bs).cell? ⟨w.heap.size,i,none⟩=some ((Lib.bytesCells w e bs)[i]'(by rw[hcs];exact hi))∧(Lib.bytesWorld w e bs).frozen? ⟨w.heap.size,i,none⟩=false:=fun i hi=>by
    constructor
    ·simp only[World.cell?,hnew]
     simp[hcs,hi]
    ·simp only[World.frozen?,hnew]
     rw[hcs]
     simp
     omega
   split at he
   ·rename_i hnil
    cases he
    obtain⟨E,S'⟩:=zeD S (w':=Lib.bytesWorld w e bs) (by rw[Lib.bytesWorld_size];omega) (fun b hb=>Lib.bytesWorld_at_old w e bs b hb) rfl rfl rfl
    have h0:bs.size=0:=by rw[←hsz,hnil];rfl
    refine OpRes.mem hex E S' ?_
    rw[h0]
    exact .e0 _ _
   ·rename_i hnil
    cases he
    obtain⟨E,S'⟩:=zjn S hF (w':=Lib.bytesWorld w e bs) (u8s bs.data.toList) (grownCap w bs.size 0 e) (Lib.bytesWorld_size w e bs) (fun b hb=>Lib.bytesWorld_at_old w e bs b hb) rfl rfl rfl
     (by simp only[u8s,List.length_map];omega) (by rw[List.all_eq_true];intro q hq;simp only[u8s,List.mem_map] at hq;obtain⟨_,_,rfl⟩:=hq;rfl)
     (fun i hi=>by
      have hi':i<bs.size:=by simpa [u8s,hsz] using hi
      obtain⟨g1,_⟩:=hcell i (by omega)
      refine⟨_,g1,?_⟩
      have:(Lib.bytesCells w e bs)[i]'(by rw[hcs];omega)=.int .u8 (bs.data[i]'hi').toNat:=by
       simp only[Lib.bytesCells]
       rw[Array.getElem_append_left (by simpa using hi')]
       simp
      rw[this]
      simp only[u8s,List.getElem_map,Array.getElem_toList]
      exact .i _ _)
     (fun i hi=>⟨⟨_,(hcell i hi).1⟩,(hcell i hi).2⟩)
    refine OpRes.mem hex E S' ?_
    have:=Rel.sl (key:=key) (n:=h.next) (off:=0) (len:=bs.size) (cap:=bs.size) (cap':=grownCap w bs.size 0 e) (z:=1) (Loc.add_same l h.next ⟨w.heap.size,0,grownCap w bs.size 0 e,false⟩) hgc (by simp) (Nat.le_refl _)
    rw[hsz]
    simpa using this
 ·cases he
theorem zbx:∀{k1 k2:List Nat} {xs ys:List AV} {b:Bool},eqCells (k1++k2) xs ys=some b →
  ∃b1 b2,eqCells k1 (xs.take k1.length) (ys.take k1.length)=some b1∧eqCells k2 (xs.drop k1.length) (ys.drop k1.length)=some b2∧b=(b1&&b2)
 | [],k2,xs,ys,b,h=>⟨true,b,by simp[eqCells],by simpa using h,by simp⟩
 | k::k1,k2,xs,ys,b,h=>by
  cases xs with
  | nil=>simp[eqCells] at h
  | cons x xs =>
   cases ys with
   | nil=>simp[eqCells] at h
   | cons y ys =>
    simp only[List.cons_append,eqCells] at h
    cases h1:eqCell k x y with
    | none=>simp[h1] at h
    | some c =>
     cases h2:eqCells (k1++k2) xs ys with
     | none=>simp[h1,h2] at h
     | some c' =>
      simp[h1,h2] at h
      obtain⟨b1,b2,g1,g2,g3⟩:=zbx h2
      exact⟨c&&b1,b2,by simp[eqCells,h1,g1],by simpa using g2,by rw[←h,g3,Bool.and_assoc]⟩
theorem za5:∀{ks:List Nat} {xs ys:List AV} {b:Bool},eqCells ks xs ys=some b→xs.length=ks.length∧ys.length=ks.length
 | [],[],[],_,_=>⟨rfl,rfl⟩
 | [],x::xs,ys,_,h=>by simp[eqCells] at h
 | [],[],y::ys,_,h=>by simp[eqCells] at h
 | k::ks,[],ys,_,h=>by simp[eqCells] at h
 | k::ks,x::xs,[],_,h=>by simp[eqCells] at h
 | k::ks,x::xs,y::ys,b,h=>by
  simp only[eqCells] at h
  cases h1:eqCell k x y with
  | none=>simp[h1] at h
  | some c =>
   cases h2:eqCells ks xs ys with
   | none=>simp[h1,h2] at h
   | some c' =>
    have:=za5 h2
    simp[this.1,this.2]
theorem zmo {x y:AV} {b:Bool} (h:eqCell 0 x y=some b):∃p q,x=.b p∧y=.b q∧b=(p==q):=by
 cases x<;>cases y<;>simp[eqCell] at h ⊢
 exact h.symm
theorem zmp {x y:AV} {b:Bool} (h:eqCell 1 x y=some b):∃k p q,x=.i k p∧y=.i k q∧b=(p==q):=by
 cases x<;>cases y<;>simp[eqCell] at h
 obtain⟨rfl,rfl⟩:=h
 exact⟨_,_,_,rfl,rfl,rfl⟩
theorem zmq {x y:AV} {b:Bool} (h:eqCell 2 x y=some b):∃p q,x=.s p∧y=.s q∧b=(p==q):=by
 cases x<;>cases y<;>simp[eqCell] at h ⊢
 exact h.symm
theorem zdG {t:TypeId} {fs:Array Field} (hu:P.underlying t=some (.struct fs)):P.fieldsOf t=fs:=by
 simp[Program.fieldsOf,hu]
theorem zbH {t:TypeId} (hg:aggOf P t=some false) {ws:Array Value} {off:Nat} (h:off<ws.size) (w:World):(part t ws off).run P w=.ok ws[off] w:=by
 simp[part,zbI hg,h]
theorem zcP {t:TypeId} (hg:aggOf P t=some true) {n:Nat} (hn:szOf P t=some n) (ws:Array Value) (off:Nat) (w:World):(part t ws off).run P w=.ok (.agg (ws.extract off (off+n))) w:=by
 simp[part,zbI hg,zaq hn]
theorem RelL.extract {vs:List AV} {ws:Array Value} (h:RelL key l vs ws.toList) (off n:Nat):RelL key l ((vs.drop off).take n) (ws.extract off (off+n)).toList:=by
 have:=(h.drop off).take n
 rwa [show List.take n (List.drop off ws.toList)=(ws.extract off (off+n)).toList by simp[Array.toList_extract,List.extract_eq_take_drop,Nat.add_sub_cancel_left]] at this
theorem zeQ {vs vs':List AV} {ws ws':Array Value} {off k:Nat} {b:Bool} (r:RelL key l vs ws.toList) (r':RelL key l vs' ws'.toList) (h1:off+1≤vs.length) (h2:off+1≤vs'.length)
  (he:eqCells [k] ((vs.drop off).take 1) ((vs'.drop off).take 1)=some b):∃(g:off<ws.size) (g':off<ws'.size) (x y:AV),Rel key l x ws[off]∧Rel key l y ws'[off]∧eqCell k x y=some b:=by
 have g:off<ws.size:=by have:=r.1;simp at this;omega
 have g':off<ws'.size:=by have:=r'.1;simp at this;omega
 refine⟨g,g',vs[off],vs'[off],by have h0:=r.2 off (by omega) (by simpa using g);rw[Array.getElem_toList] at h0;exact h0,by have h0:=r'.2 off (by omega) (by simpa using g');rw[Array.getElem_toList] at h0;exact h0,?_⟩
 have e1:(vs.drop off).take 1=[vs[off]]:=by
  rw[List.drop_eq_getElem_cons (by omega)];rfl
 have e2:(vs'.drop off).take 1=[vs'[off]]:=by
  rw[List.drop_eq_getElem_cons (by omega)];rfl
 rw[e1,e2] at he
 simp only[eqCells] at he
 cases h1:eqCell k vs[off] vs'[off] with
 | none=>simp[h1] at he
 | some c=>simp[h1] at he;rw[he]
theorem zeF:∀(D:Nat) (t:TypeId) (ks:List Nat),flatK P D t=some ks→szOf P t=some ks.length→∀(d:Nat),D≤d→∀(vs vs':List AV) (ws ws':Array Value) (off:Nat) (b:Bool),
  RelL key l vs ws.toList→RelL key l vs' ws'.toList→off+ks.length≤vs.length→off+ks.length≤vs'.length→eqCells ks ((vs.drop off).take ks.length) ((vs'.drop off).take ks.length)=some b →
  ∃va vb,(part t ws off).run P w=.ok va w∧(part t ws' off).run P w=.ok vb w∧(Op.equalIn d t va vb).run P w=.ok b w
 | 0,t,ks,hf,_,_,_,_,_,_,_,_,_,_,_,_,_,_=>by simp[flatK] at hf
 | D+1,t,ks,hf,hsz,d,hd,vs,vs',ws,ws',off,b,r,r',h1,h2,he=>by
  obtain⟨d,rfl⟩:∃q,d=q+1:=⟨d-1,by omega⟩
  unfold flatK at hf
  split at hf
  ·rename_i hu
   cases hf
   obtain⟨g,g',x,y,rx,ry,hc⟩:=zeQ r r' h1 h2 he
   have hg:aggOf P t=some false:=by simp[aggOf,hu]
   refine⟨_,_,zbH hg g w,zbH hg g' w,?_⟩
   generalize ws[off]=p at *
   generalize ws'[off]=q at *
   obtain⟨p1,q1,rfl,rfl,rfl⟩:=zmo hc
   cases rx;cases ry
   exact run_equalIn_bool' w d t _ _ hu
  ·rename_i kk hu
   cases hf
   obtain⟨g,g',x,y,rx,ry,hc⟩:=zeQ r r' h1 h2 he
   have hg:aggOf P t=some false:=by simp[aggOf,hu]
   refine⟨_,_,zbH hg g w,zbH hg g' w,?_⟩
   generalize ws[off]=p at *
   generalize ws'[off]=q at *
   obtain⟨k1,p1,q1,rfl,rfl,rfl⟩:=zmp hc
   cases rx;cases ry
   exact run_equalIn_int w d t _ _ _ _ hu
  ·rename_i hu
   cases hf
   obtain⟨g,g',x,y,rx,ry,hc⟩:=zeQ r r' h1 h2 he
   have hg:aggOf P t=some false:=by simp[aggOf,hu]
   refine⟨_,_,zbH hg g w,zbH hg g' w,?_⟩
   generalize ws[off]=p at *
   generalize ws'[off]=q at *
   obtain⟨p1,q1,rfl,rfl,rfl⟩:=zmq hc
   cases rx;cases ry
   rw[run_equalIn_string w d t _ _ hu,zcx,zcx]
  ·rename_i fs hu
   split at hf
   ·cases hf
   ·rename_i hst
    have hst':P.stoodInHeld t=false:=by simpa using hst
    have hg:aggOf P t=some true:=by simp[aggOf,hu]
    refine⟨_,_,zcP hg hsz ws off w,zcP hg hsz ws' off w,?_⟩
    rw[run_equalIn_struct w d t _ _ (by rw[zdG hu];exact hu) hst',zdG hu]
    have rE:=r.extract off ks.length
    have rE':=r'.extract off ks.length
    have l1:((vs.drop off).take ks.length).length=ks.length:=(za5 he).1
    have l2:((vs'.drop off).take ks.length).length=ks.length:=(za5 he).2
    generalize (vs.drop off).take ks.length=us at *
    generalize (vs'.drop off).take ks.length=us' at *
    generalize ws.extract off (off+ks.length)=xs at *
    generalize ws'.extract off (off+ks.length)=ys at *
    have fieldsRun:∀(fl:List Field) (k:Nat) (kr:List Nat) (c:Bool),flatGo P (flatK P D) fl k=some kr→k+kr.length≤us.length→k+kr.length≤us'.length→eqCells kr ((us.drop k).take kr.length) ((us'.drop k).take kr.length)=some c →
      (Op.eqFields d xs ys fl).run P w=.ok c w:=by
     intro fl
     induction fl with
     | nil =>
      intro k kr c hgo _ _ hc
      simp[flatGo] at hgo;subst hgo
      simp[eqCells] at hc;subst hc
      rfl
     | cons f fl ih =>
      intro k kr c hgo b1 b2 hc
      simp only[flatGo] at hgo
      split at hgo
      ·rename_i hnm
       split at hgo
       ·rename_i kf hkf
        split at hgo
        ·rename_i hszf
         cases hr:flatGo P (flatK P D) fl (k+kf.length) with
         | none=>simp[hr] at hgo
         | some krr =>
          simp[hr] at hgo;subst hgo
          obtain⟨c1,c2,g1,g2,g3⟩:=zbx hc
          have ll:(kf++krr).length=kf.length+krr.length:=List.length_append
          rw[List.take_take,Nat.min_eq_left (by omega),List.take_take,Nat.min_eq_left (by omega)] at g1
          rw[List.drop_take,List.drop_drop,List.drop_take,List.drop_drop,ll,Nat.add_sub_cancel_left] at g2
          obtain⟨va,vb,p1,p2,p3⟩:=zeF D f.type kf hkf hszf d (by omega) us us' xs ys k c1 rE rE' (by omega) (by omega) g1
          have ihh:=ih (k+kf.length) krr c2 hr (by omega) (by omega) g2
          simp only[Op.eqFields,if_pos hnm.1,Sem.run_bind,hnm.2,p1,p2,p3,Result.andThen_ok]
          cases c1
          ·simp[g3]
          ·simp[g3,ihh]
        ·cases hgo
       ·cases hgo
      ·cases hgo
    refine fieldsRun fs.toList 0 ks b hf (by omega) (by omega) ?_
    rw[List.drop_zero,List.drop_zero,List.take_of_length_le (by omega),List.take_of_length_le (by omega)]
    exact he
  ·rename_i n e hu
   split at hf
   ·rename_i ke hke
    split at hf
    ·rename_i hsze
     cases hf
     have hg:aggOf P t=some true:=by simp[aggOf,hu]
     obtain⟨i,hi,his⟩:=zdV hsze
     have hce:P.cellsOf e=ke.length:=by simp[Program.cellsOf,hi,his]
     refine⟨_,_,zcP hg hsz ws off w,zcP hg hsz ws' off w,?_⟩
     rw[run_equalIn_array w d _ _ hu hi,hce]
     have hL:(List.replicate n ke).flatten.length=n*ke.length:=zbR _ _
     have rE:=r.extract off (List.replicate n ke).flatten.length
     have rE':=r'.extract off (List.replicate n ke).flatten.length
     have l1:=(za5 he).1
     have l2:=(za5 he).2
     generalize (vs.drop off).take (List.replicate n ke).flatten.length=us at *
     generalize (vs'.drop off).take (List.replicate n ke).flatten.length=us' at *
     generalize ws.extract off (off+(List.replicate n ke).flatten.length)=xs at *
     generalize ws'.extract off (off+(List.replicate n ke).flatten.length)=ys at *
     have itemsRun:∀(m k:Nat) (c:Bool),(k+m)*ke.length≤us.length→(k+m)*ke.length≤us'.length →
       eqCells (List.replicate m ke).flatten ((us.drop (k*ke.length)).take (m*ke.length)) ((us'.drop (k*ke.length)).take (m*ke.length))=some c →
       (Op.eqItems d e ke.length xs ys (List.range' k m)).run P w=.ok c w:=by
      intro m
      induction m with
      | zero =>
       intro k c _ _ hc
       simp[eqCells] at hc;subst hc
       rfl
      | succ m ih =>
       intro k c b1 b2 hc
       rw[List.replicate_succ,List.flatten_cons] at hc
       obtain⟨c1,c2,g1,g2,g3⟩:=zbx hc
       have ms:(m+1)*ke.length=ke.length+m*ke.length:=by rw[Nat.succ_mul];omega
       have ks1:(k+(m+1))*ke.length=k*ke.length+ke.length+m*ke.length:=by rw[Nat.add_mul,ms];omega
       rw[List.take_take,Nat.min_eq_left (by omega),List.take_take,Nat.min_eq_left (by omega)] at g1
       rw[List.drop_take,List.drop_drop,List.drop_take,List.drop_drop,ms,Nat.add_sub_cancel_left,show k*ke.length+ke.length=(k+1)*ke.length by rw[Nat.succ_mul]] at g2
       obtain⟨va,vb,p1,p2,p3⟩:=zeF D e ke hke hsze d (by omega) us us' xs ys (k*ke.length) c1 rE rE' (by omega) (by omega) g1
       have ihh:=ih (k+1) c2 (by rw[show k+1+m=k+(m+1) by omega];exact b1) (by rw[show k+1+m=k+(m+1) by omega];exact b2) g2
       simp only[List.range'_succ,Op.eqItems,Sem.run_bind,p1,p2,p3,Result.andThen_ok]
       cases c1
       ·simp[g3]
       ·simp[g3,ihh]
     rw[List.range_eq_range']
     refine itemsRun n 0 b (by rw[Nat.zero_add,←hL];omega) (by rw[Nat.zero_add,←hL];omega) ?_
     rw[Nat.zero_mul,List.drop_zero,List.drop_zero,List.take_of_length_le (by omega),List.take_of_length_le (by omega)]
     exact he
    ·cases hf
   ·cases hf
  ·cases hf
theorem zlC {bop:BinOp} {ks:List Nat} {t yt:TypeId} {x1 x2:Operand} {x y:X} (TO:TabOk key T l) (R:RelF key l fr a.tmps) (S:Sim key F l h w) (ho:o.op=.binOp bop t x1 x2 yt)
  (e1:cX T x1=some x) (e2:cX T x2=some y) (hop:bop=.eql∨bop=.neq) (hg:P.eqGuardType P.depth t=false) (hk:flatK P 100 t=some ks) (hn:szOf P t=some ks.length) (hag:aggOf P t=some true)
  (he:(XO.eqa (isNeq bop) ks x y).ev call fr h=some (v,h')):OpRes F P key a o l h w v h':=by
 have r1:=zal TO R e1
 have r2:=zal TO R e2
 simp only[XO.ev] at he
 generalize x.ev fr=A at *
 generalize y.ev fr=B at *
 generalize hva:a.eval x1=va at *
 generalize hvb:a.eval x2=vb at *
 split at he
 ·rename_i xs ys
  cases hb:eqCells ks xs ys with
  | none=>simp[hb] at he
  | some z =>
   simp[hb] at he;obtain⟨rfl,rfl⟩:=he
   obtain⟨lx,ly⟩:=za5 hb
   cases r1 with
   | @ag _ ws hn1 hv1 =>
    cases r2 with
    | @ag _ ws' hn2 hv2 =>
     obtain⟨pa,pb,p1,p2,p3⟩:=zeF (key:=key) (l:=l) (w:=w) 100 t ks hk hn 10000 (by omega) xs ys ws ws' 0 z (RelL.of_ag (.ag hn1 hv1)) (RelL.of_ag (.ag hn2 hv2)) (by omega) (by omega)
      (by rw[List.drop_zero,List.drop_zero,List.take_of_length_le (by omega),List.take_of_length_le (by omega)];exact hb)
     rw[zcP hag hn] at p1 p2
     have e1':ws.extract 0 (0+ks.length)=ws:=by rw[Nat.zero_add,←lx,hn1];simp
     have e2':ws'.extract 0 (0+ks.length)=ws':=by rw[Nat.zero_add,←ly,hn2];simp
     rw[e1'] at p1;rw[e2'] at p2
     cases p1;cases p2
     refine OpRes.pure S (val:=.bool (if isNeq bop then !z else z)) ?_ (.b _)
     have hgd:=run_eqGuard_agg (P:=P) w bop t x1 x2 ws ws' hg
     rcases hop with rfl|rfl
     ·have hr:=run_eql_struct (P:=P) w t ws ws'
      rw[p3] at hr
      simp only[execOp,ho,hva,hvb,Sem.run_bind,hgd,Result.andThen_ok,hr,Sem.run_pure]
      rfl
     ·have hr:=run_neq_struct (P:=P) w t ws ws'
      rw[p3] at hr
      simp only[execOp,ho,hva,hvb,Sem.run_bind,hgd,Result.andThen_ok,hr,Sem.run_pure]
      rfl
 ·cases he
end Go.Eng
namespace Go.Eng
variable {F:Nat} {key:Nat→Option FuncId} {P:Program} {T:Tab} {call:Nat→List AV→Hp→Option (AV×Hp)} {l:Loc} {fr:Fr} {a:Act} {h h':Hp} {w:World} {o:Oper} {v:AV}
def Callable (P:Program) (key:Nat→Option FuncId):Prop:=∀f g,key f=some g→∃fn,P.funcs[g]?=some fn∧fn.body.isNone=false∧(fn.name == "runtime.NumGoroutine")=false
theorem zda (hc:Callable P key) {f:Nat} {g:FuncId} (hk:key f=some g) (args:Array Value) (w:World):(callFunc g args).run P w=.ok (.enter g args) w:=by
 obtain⟨fn,h1,h2,h3⟩:=hc f g hk
 simp only[callFunc,Sem.run_bind,run_program,Result.andThen_ok,h1,h3,h2,Bool.false_eq_true,if_false,Sem.run_pure]
theorem zmX {c:Call} {g:FuncId} {k:Nat} {xs:List X} (HC:Callable P key) (TO:TabOk key T l) (R:RelF key l fr a.tmps) (ho:o.op=.call c) (hg:c.callee=.value (.func g)) (hk:T.fkey g=some k)
  (e1:cXs T c.args.toList=some xs) (he:(XO.call k xs).ev call fr h=some (v,h')):OpCall P key call a o l h w v h':=by
 have hkey:=TO.f g k hk
 have r:=zdU TO R e1
 simp only[XO.ev] at he
 refine⟨g,c.args.map a.eval,k,xs.map (X.ev fr),?_,hkey,by simpa using r,he⟩
 simp only[execOp,ho,resolve,hg,Act.eval,Deferred.ofValue,Sem.run_bind,Sem.run_pure,Result.andThen_ok,invoke]
 rw[zda HC hkey]
 simp[Act.eval]
theorem zkx {c:Call} {x1:Operand} {x:X} {xs:List X} (HC:Callable P key) (TO:TabOk key T l) (R:RelF key l fr a.tmps) (ho:o.op=.call c) (hg:c.callee=.value x1)
  (e0:cX T x1=some x) (e1:cXs T c.args.toList=some xs) (he:(XO.callv x xs).ev call fr h=some (v,h')):OpCall P key call a o l h w v h':=by
 have r0:=zal TO R e0
 have r:=zdU TO R e1
 simp only[XO.ev] at he
 generalize x.ev fr=A at *
 generalize hva:a.eval x1=va at *
 split at he
 ·rename_i f cs
  cases r0 with
  | @fn _ g _ ws hk hn hv =>
   refine⟨g,c.args.map a.eval++ws,f,xs.map (X.ev fr)++cs,?_,hk,?_,he⟩
   ·simp only[execOp,ho,resolve,hg,hva,Deferred.ofValue,Sem.run_bind,Sem.run_pure,Result.andThen_ok,invoke]
    rw[zda HC hk]
    simp
   ·have rc:RelL key l cs ws.toList:=⟨by simpa using hn,fun i h1 h2=>by
     have:=hv i h1 (by simpa using h2)
     rw[Array.getElem_toList];exact this⟩
    have:=r.append rc
    simpa using this
 ·cases he
theorem zfQ {c:Call} {b:Builtin} {xs:List X} {y:XO} (TO:TabOk key T l) (R:RelF key l fr a.tmps) (S:Sim key F l h w) (ho:o.op=.call c) (hg:c.callee=.builtin b)
  (e1:cXs T c.args.toList=some xs) (hc:cBuiltin P b c.argTypes.toList xs=some y) (hF:h'.next≤F) (he:y.ev call fr h=some (v,h')):OpRes F P key a o l h w v h':=by
 obtain⟨callee,args,argTypes⟩:=c
 simp only at hg e1 hc
 subst hg
 obtain⟨args⟩:=args
 obtain⟨argTypes⟩:=argTypes
 simp only at e1 hc
 unfold cBuiltin at hc
 split at hc
 ·
  rename_i t x ht
  cases args with
  | nil=>simp[cXs] at e1
  | cons x1 rest =>
   simp only[cXs] at e1
   split at e1
   ·rename_i y1 ys e2 e3
    cases e1
    cases rest with
    | cons q r=>simp only[cXs] at e3;split at e3<;>cases e3
    | nil =>
     split at hc
     ·rename_i hu;cases hc;exact zm1 TO R S ho hu e2 he
     ·rename_i e hu;cases hc;exact zoX TO R S ho hu e2 he
     ·rename_i n e hu;cases hc;exact ziJ S ho (t':=0) (.inl hu) he
     ·rename_i q hu
      split at hc
      ·rename_i n e hu2;cases hc;exact ziJ S ho (.inr ⟨hu,hu2⟩) he
      ·cases hc
     ·cases hc
   ·cases e1
 ·
  rename_i t u s x
  cases args with
  | nil=>simp[cXs] at e1
  | cons x1 rest =>
   simp only[cXs] at e1
   split at e1
   ·rename_i y1 ys e2 e3
    cases e1
    cases rest with
    | nil=>simp[cXs] at e3
    | cons x2 rest =>
     simp only[cXs] at e3
     split at e3
     ·rename_i y2 ys2 e4 e5
      cases e3
      cases rest with
      | cons q r=>simp only[cXs] at e5;split at e5<;>cases e5
      | nil =>
       split at hc
       ·rename_i e ud hu hud
        split at hc
        ·cases hc
        ·rename_i hsl
         split at hc
         ·rename_i z by_ zs q1 q2 q3
          split at hc
          ·rename_i hcond
           cases hc
           have hsrc:srcTy P u:=by
            cases ud<;>simp at hsl
            ·exact .inl hud
            ·exact .inr ⟨_,hud⟩
           exact zoM TO R S ho hu hsrc q1 hcond.1 q3 hcond.2.1 q2 hcond.2.2 e2 e4 hF he
          ·cases hc
         ·cases hc
       ·cases hc
     ·cases e3
   ·cases e1
 ·
  rename_i t u d s ht
  cases args with
  | nil=>simp[cXs] at e1
  | cons x1 rest =>
   simp only[cXs] at e1
   split at e1
   ·rename_i y1 ys e2 e3
    cases e1
    cases rest with
    | nil=>simp[cXs] at e3
    | cons x2 rest =>
     simp only[cXs] at e3
     split at e3
     ·rename_i y2 ys2 e4 e5
      cases e3
      cases rest with
      | cons q r=>simp only[cXs] at e5;split at e5<;>cases e5
      | nil =>
       split at hc
       ·rename_i e hu
        split at hc
        ·rename_i z hz
         split at hc
         ·cases hc;exact zoQ TO R S ho hu hz e2 e4 he
         ·cases hc
        ·cases hc
       ·cases hc
     ·cases e3
   ·cases e1
 ·
  cases hc
  cases args with
  | nil=>simp[cXs] at e1
  | cons x1 rest =>
   simp only[cXs] at e1
   split at e1
   ·rename_i y1 ys e2 e3
    cases e1
    exact zo0 (b:=true) TO R S ho e2 e3 he
   ·cases e1
 ·cases hc
  cases args with
  | nil=>simp[cXs] at e1
  | cons x1 rest =>
   simp only[cXs] at e1
   split at e1
   ·rename_i y1 ys e2 e3
    cases e1
    exact zo0 (b:=false) TO R S ho e2 e3 he
   ·cases e1
 ·cases hc
theorem zrz {y:XO} (HC:Callable P key) (TO:TabOk key T l) (R:RelF key l fr a.tmps) (S:Sim key F l h w) (hc:cOp P T o.op=some y) (hF:h'.next≤F) (he:y.ev call fr h=some (v,h')) :
  OpRes F P key a o l h w v h'∨OpCall P key call a o l h w v h':=by
 cases ho:o.op<;>rw[ho] at hc
 case move x=>exact .inl (ziK TO R S (.inl ho) (by simpa [cOp] using hc) he)
 case assign x=>exact .inl (ziK TO R S (.inr ho) (by simpa [cOp] using hc) he)
 case pick c x1 x2=>exact .inl (zm3 TO R S ho (by rw[ho];exact hc) he)
 case alloc e =>
  cases hz:zOf P e with
  | none=>simp[cOp,hz] at hc
  | some z=>simp[cOp,hz] at hc;subst hc;exact .inl (zo2 S ho hz hF he)
 case box e x =>
  cases hx:cX T x with
  | none=>simp[cOp,hx] at hc
  | some z=>simp[cOp,hx] at hc;subst hc;exact .inl (zoO TO R S ho hx hF he)
 case build t ps =>
  simp only[cOp] at hc
  split at hc
  ·rename_i fs z hu hz
   cases hp:cPlaces T (sPlace P fs) ps.toList with
   | none=>simp[hp] at hc
   | some qs =>
    simp only[hp,Option.bind_some] at hc
    split at hc
    ·rename_i hall
     cases hc;exact .inl (zgK TO R S ho hz (.inl ⟨fs,hu,hall,hp⟩) he)
    ·cases hc
  ·rename_i n e z hu hz
   cases hs:szOf P e with
   | none=>simp[hs] at hc
   | some s =>
    cases hp:cPlaces T (fun i=>some (i*s,s)) ps.toList with
    | none=>simp[hs,hp] at hc
    | some qs=>simp[hs,hp] at hc;subst hc;exact .inl (zgK TO R S ho hz (.inr ⟨n,e,s,hu,hs,hp⟩) he)
  ·cases hc
 case buildSlice t n ps =>
  simp only[cOp] at hc
  split at hc
  ·rename_i e hu
   split at hc
   ·rename_i s z hs hz
    cases hp:cPlaces T (fun i=>some (i*s,s)) ps.toList with
    | none=>simp[hp] at hc
    | some qs =>
     simp only[hp,Option.bind_some] at hc
     split at hc
     ·rename_i h0
      cases hc;exact .inl (zoP TO R S ho hu hs h0 hz hp hF he)
     ·cases hc
   ·cases hc
  ·cases hc
 case load t x =>
  simp only[cOp] at hc
  split at hc
  ·rename_i g n y1 e1 e2 e3;cases hc;exact .inl (zm2 TO R S ho e1 e2 e3 he)
  ·cases hc
 case store t x1 x2 =>
  simp only[cOp] at hc
  split at hc
  ·rename_i n y1 y2 e1 e2 e3;cases hc;exact .inl (zkB TO R S ho e1 e2 e3 he)
  ·cases hc
 case nilCheck x=>exact .inl (zky TO R S ho (by rw[ho];exact hc) he)
 case binOp bop t x1 x2 yt =>
  simp only[cOp] at hc
  split at hc
  ·rename_i y1 y2 e1 e2
   have gen:(bop=.eql∨bop=.neq)→∀{q:Option XO},q=some y →
     (q=(match P.underlying t with
      | some (.int _)|some .string=>some (.bin bop y1 y2)
      | some .bool=>some (.eqt (isNeq bop) 0 y1 y2)
      | some (.pointer e)=>match szOf P e with|some n=>if n≠0 then some (.eqt (isNeq bop) 1 y1 y2) else none|none=>none
      | some (.interface _)=>if Region.isConst x1 || Region.isConst x2 then some (.eqt (isNeq bop) 2 y1 y2) else none
      | some (.slice _)=>if isNilS x2 then some (.eqt (isNeq bop) 3 y1 y2) else none
      | some (.struct _)|some (.array _ _) =>
       if P.eqGuardType P.depth t then none else
       match flatK P 100 t with
       | some ks=>if szOf P t=some ks.length then some (.eqa (isNeq bop) ks y1 y2) else none
       | none=>none
      | _=>none))→OpRes F P key a o l h w v h':=by
    intro hop q hq hm
    rw[hm] at hq
    clear hm hc
    split at hq
    ·cases hq;exact ziI TO R S ho e1 e2 he
    ·cases hq;exact ziI TO R S ho e1 e2 he
    ·rename_i hu;cases hq;exact zgL TO R S ho e1 e2 hop (.inl ⟨rfl,hu⟩) he
    ·rename_i e hu
     split at hq
     ·rename_i n hn
      split at hq
      ·rename_i h0;cases hq;exact zgL TO R S ho e1 e2 hop (.inr (.inl ⟨rfl,e,n,hu,hn,h0⟩)) he
      ·cases hq
     ·cases hq
    ·rename_i ms hu
     split at hq
     ·rename_i hk;cases hq;exact zgL TO R S ho e1 e2 hop (.inr (.inr (.inl ⟨rfl,ms,hu,hk⟩))) he
     ·cases hq
    ·rename_i e hu
     split at hq
     ·rename_i hk
      cases hq
      refine zgL TO R S ho e1 e2 hop (.inr (.inr (.inr ⟨rfl,e,hu,?_⟩))) he
      unfold isNilS at hk
      split at hk
      ·rfl
      ·cases hk
     ·cases hq
    ·rename_i fs hu
     split at hq
     ·cases hq
     ·rename_i hg
      split at hq
      ·rename_i ks hks
       split at hq
       ·rename_i hn;cases hq;exact zlC TO R S ho e1 e2 hop (by simpa using hg) hks hn (by simp[aggOf,hu]) he
       ·cases hq
      ·cases hq
    ·rename_i n e hu
     split at hq
     ·cases hq
     ·rename_i hg
      split at hq
      ·rename_i ks hks
       split at hq
       ·rename_i hn;cases hq;exact zlC TO R S ho e1 e2 hop (by simpa using hg) hks hn (by simp[aggOf,hu]) he
       ·cases hq
      ·cases hq
    ·cases hq
   cases bop
   case eql=>exact .inl (gen (.inl rfl) hc rfl)
   case neq=>exact .inl (gen (.inr rfl) hc rfl)
   all_goals (cases hc;exact .inl (ziI TO R S ho e1 e2 he))
  ·cases hc
 case unOp uop t x =>
  cases hx:cX T x with
  | none=>simp[cOp,hx] at hc
  | some z=>simp[cOp,hx] at hc;subst hc;exact .inl (zrA TO R S ho hx he)
 case convert s d x =>
  simp only[cOp] at hc
  split at hc
  ·rename_i k k' y1 e1 e2 e3;cases hc;exact .inl (zmY TO R S ho e1 e2 e3 he)
  ·rename_i y1 e1 e2 e3;cases hc;exact .inl (zmZ TO R S ho e1 e2 e3 he)
  ·rename_i e y1 e1 e2 e3
   split at hc
   ·rename_i hu;cases hc;exact .inl (zo3 TO R S ho e1 e2 hu e3 hF he)
   ·cases hc
  ·rename_i e y1 e1 e2 e3
   split at hc
   ·rename_i hu;cases hc;exact .inl (zoN TO R S ho e1 e2 hu e3 he)
   ·cases hc
  ·cases hc
 case makeInterface t x =>
  simp only[cOp] at hc
  split at hc
  ·cases hc
  ·rename_i d y1 hni e1 e2
   cases hc
   exact .inl (zoZ TO R S ho e1 (fun ms hm=>hni ms hm) e2 he)
  ·cases hc
 case makeFunc fn first xs =>
  cases fn with
  | func f =>
   simp only[cOp] at hc
   split at hc
   ·rename_i hf
    split at hc
    ·rename_i k ys e1 e2;cases hc;exact .inl (zoY TO R S ho hf e1 e2 he)
    ·cases hc
   ·cases hc
  | _=>simp[cOp] at hc
 case makeSlice t x1 x2 =>
  simp only[cOp] at hc
  split at hc
  ·rename_i e hu
   split at hc
   ·rename_i s z by_ y1 y2 e1 e2 e3 e4 e5
    split at hc
    ·rename_i hcond;cases hc;exact .inl (zo1 TO R S ho hu e1 hcond.1 e2 hcond.2 e3 e4 e5 hF he)
    ·cases hc
   ·cases hc
  ·cases hc
 case slice t x lo hi mx =>
  simp only[cOp] at hc
  split at hc
  ·rename_i y1 l1 l2 e1 e2 e3 e4 e5
   cases hc
   have hmx:mx=none:=by
    cases mx with
    | none=>rfl
    | some q=>cases hq:cX T q<;>simp[cXo,hq] at e5
   subst hmx
   exact .inl (zkA TO R S ho e1 e2 e3 e4 he)
  ·rename_i e y1 l1 l2 l3 e1 e2 e3 e4 e5
   split at hc
   ·rename_i z hz
    split at hc
    ·cases hc;exact .inl (zm4 TO R S ho e1 hz e2 e3 e4 e5 he)
    ·cases hc
   ·cases hc
  ·rename_i n e y1 l1 l2 e1 e2 e3 e4 e5
   split at hc
   ·rename_i z hz
    split at hc
    ·cases hc
     have hmx:mx=none:=by
      cases mx with
      | none=>rfl
      | some q=>cases hq:cX T q<;>simp[cXo,hq] at e5
     subst hmx
     exact .inl (zkz TO R S ho e1 hz e2 e3 e4 he)
    ·cases hc
   ·cases hc
  ·cases hc
 case fieldAddr s x i =>
  simp only[cOp] at hc
  split at hc
  ·rename_i fs y1 e1 e2
   cases hf:fs[i]? with
   | none=>simp[hf] at hc
   | some fd =>
    simp only[hf,Option.bind_some] at hc
    split at hc
    ·rename_i n hn
     split at hc
     ·rename_i h0;cases hc;exact .inl (zoS TO R S ho e1 hf hn h0 e2 he)
     ·cases hc
    ·cases hc
  ·cases hc
 case field t x i =>
  simp only[cOp] at hc
  split at hc
  ·rename_i fs y1 e1 e2
   cases hf:fs[i]? with
   | none=>simp[hf] at hc
   | some fd =>
    simp only[hf,Option.bind_some] at hc
    split at hc
    ·rename_i g n hg hn;cases hc;exact .inl (zoT TO R S ho e1 hf hg hn e2 he)
    ·cases hc
  ·cases hc
 case indexAddr t x1 x2 =>
  simp only[cOp] at hc
  split at hc
  ·rename_i n e y1 y2 e1 e2 e3
   cases hz:szOf P e with
   | none=>simp[hz] at hc
   | some z=>simp[hz] at hc;subst hc;exact .inl (zoV TO R S ho e1 hz e2 e3 he)
  ·rename_i e y1 y2 e1 e2 e3
   cases hz:szOf P e with
   | none=>simp[hz] at hc
   | some z=>simp[hz] at hc;subst hc;exact .inl (zoW TO R S ho e1 hz e2 e3 he)
  ·cases hc
 case index t x1 x2 =>
  simp only[cOp] at hc
  split at hc
  ·rename_i n e y1 y2 e1 e2 e3
   split at hc
   ·rename_i g z hg hz;cases hc;exact .inl (zoU TO R S ho e1 hg hz e2 e3 he)
   ·cases hc
  ·rename_i y1 y2 e1 e2 e3;cases hc;exact .inl (zm0 TO R S ho e1 e2 e3 he)
  ·cases hc
 case extract x n =>
  cases hx:cX T x with
  | none=>simp[cOp,hx] at hc
  | some z=>simp[cOp,hx] at hc;subst hc;exact .inl (zoR TO R S ho hx he)
 case call c =>
  simp only[cOp] at hc
  split at hc
  ·cases hc
  ·rename_i xs hxs
   split at hc
   ·rename_i f hcal
    cases hk:T.fkey f with
    | none=>simp[hk] at hc
    | some k=>simp[hk] at hc;subst hc;exact .inr (zmX HC TO R ho hcal hk hxs he)
   ·rename_i x1 hnf hcal
    cases hx:cX T x1 with
    | none=>simp[hx] at hc
    | some z=>simp[hx] at hc;subst hc;exact .inr (zkx HC TO R ho hcal hx hxs he)
   ·rename_i b hcal
    exact .inl (zfQ TO R S ho hcal hxs hc hF he)
   ·cases hc
 all_goals (simp[cOp] at hc)
end Go.Eng
