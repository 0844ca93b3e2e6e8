import Derived.Test.YtnbhinpnmgbbhaaGreatDoorProg
import Derived.Test.YtnbhinpnmgbbhaaGreatDoorXe
import Derived.Test.YtnbhinpnmgbbhaaGreatDoorYb
import Derived.Shelf.Lays
import Derived.Shelf.Strings.BuilderX
set_option linter.all false
namespace Dx
open Go Go.Proofs Go.Shelf
def liR:Ren:=⟨fun|119=>229|120=>209|129=>215|137=>228|138=>64|143=>65|146=>25|151=>173|152=>208|160=>81|166=>26|169=>28|171=>45|172=>82|195=>107|197=>108|205=>212|217=>159|218=>109|219=>110|221=>38|224=>161|225=>160|227=>124|228=>172|231=>122|232=>123|233=>125|234=>126|235=>127|236=>128|240=>39|243=>89|244=>129|245=>130|246=>139|247=>175|260=>158|266=>196|267=>162|268=>63|271=>174|276=>66|279=>176|280=>177|281=>178|282=>179|283=>184|284=>185|285=>186|286=>187|287=>210|314=>197|316=>211|317=>214|318=>216|319=>217|320=>218|321=>230|322=>231|337=>232|338=>233|n=>n,fun|0=>0|2=>2|3=>3|4=>4|5=>5|9=>9|20=>20|21=>21|31=>51|37=>22|46=>172|51=>209|53=>197|70=>48|72=>50|75=>54|76=>55|80=>58|85=>186|105=>133|116=>152|117=>153|119=>205|124=>156|127=>80|138=>207|139=>208|143=>243|145=>245|146=>210|164=>107|167=>185|168=>188|171=>196|173=>200|175=>220|210=>224|212=>229|213=>230|232=>251|233=>252|n=>n,fun|1=>0|3=>1|4=>2|15=>3|16=>4|17=>5|18=>6|19=>7|n=>n⟩
theorem Dq:Lays.n146 Tryz.prog liR:={
 mixed:=by kernel_rfl,
 f138:=Tryz.func64.trans (congrArg some (by kernel_rfl)),
 f143:=Tryz.func65.trans (congrArg some (by kernel_rfl)),
 f146:=Tryz.func25.trans (congrArg some (by kernel_rfl)),
 f195:=Tryz.func107.trans (congrArg some (by kernel_rfl)),
 f197:=Tryz.func108.trans (congrArg some (by kernel_rfl)),
 f217:=Tryz.func159.trans (congrArg some (by kernel_rfl)),
 f218:=Tryz.func109.trans (congrArg some (by kernel_rfl)),
 f219:=Tryz.func110.trans (congrArg some (by kernel_rfl)),
 f221:=Tryz.func38.trans (congrArg some (by kernel_rfl)),
 f224:=Tryz.func161.trans (congrArg some (by kernel_rfl)),
 f225:=Tryz.func160.trans (congrArg some (by kernel_rfl)),
 f260:=Tryz.func158.trans (congrArg some (by kernel_rfl)),
 f266:=Tryz.func196.trans (congrArg some (by kernel_rfl)),
 f267:=Tryz.func162.trans (congrArg some (by kernel_rfl)),
 f268:=Tryz.func63.trans (congrArg some (by kernel_rfl)),
 f314:=Tryz.func197.trans (congrArg some (by kernel_rfl)),
 t0:=Tryz.underlying0,
 a0:=Tryz.isAgg0,
 z0:=Tryz.sizeOf0,
 v0:=Tryz.zeroValue0,
 t3:=Tryz.underlying3,
 a3:=Tryz.isAgg3,
 z3:=Tryz.sizeOf3,
 v3:=Tryz.zeroValue3,
 t4:=Tryz.underlying4,
 a4:=Tryz.isAgg4,
 z4:=Tryz.sizeOf4,
 v4:=Tryz.zeroValue4,
 t5:=Tryz.underlying5,
 a5:=Tryz.isAgg5,
 z5:=Tryz.sizeOf5,
 v5:=Tryz.zeroValue5,
 t9:=Tryz.underlying9,
 a9:=Tryz.isAgg9,
 z9:=Tryz.sizeOf9,
 v9:=Tryz.zeroValue9,
 t21:=Tryz.underlying21,
 a21:=Tryz.isAgg21,
 z21:=Tryz.sizeOf21,
 v21:=Tryz.zeroValue21,
 t31:=Tryz.underlying51,
 a31:=Tryz.isAgg51,
 z31:=Tryz.sizeOf51,
 v31:=Tryz.zeroValue51,
 t46:=Tryz.underlying172,
 a46:=Tryz.isAgg172,
 z46:=Tryz.sizeOf172,
 v46:=Tryz.zeroValue172,
 t51:=Tryz.underlying209,
 a51:=Tryz.isAgg209,
 z51:=Tryz.sizeOf209,
 v51:=Tryz.zeroValue209,
 t105:=Tryz.underlying133,
 a105:=Tryz.isAgg133,
 z105:=Tryz.sizeOf133,
 v105:=Tryz.zeroValue133,
 t119:=Tryz.underlying205,
 a119:=Tryz.isAgg205,
 z119:=Tryz.sizeOf205,
 t138:=Tryz.underlying207,
 a138:=Tryz.isAgg207,
 z138:=Tryz.sizeOf207,
 v138:=Tryz.zeroValue207,
 t139:=Tryz.underlying208,
 a139:=Tryz.isAgg208,
 z139:=Tryz.sizeOf208,
 v139:=Tryz.zeroValue208,
 t146:=Tryz.underlying210,
 a146:=Tryz.isAgg210,
 z146:=Tryz.sizeOf210,
 v146:=Tryz.zeroValue210,
 g1:=by kernel_rfl,
 g3:=by kernel_rfl,
 g4:=by kernel_rfl}
theorem EH:Lays.n160 Tryz.prog liR:={
 mixed:=by kernel_rfl,
 f119:=Tryz.func229.trans (congrArg some (by kernel_rfl)),
 f120:=Tryz.func209.trans (congrArg some (by kernel_rfl)),
 f137:=Tryz.func228.trans (congrArg some (by kernel_rfl)),
 f151:=Tryz.func173.trans (congrArg some (by kernel_rfl)),
 f152:=Tryz.func208.trans (congrArg some (by kernel_rfl)),
 f160:=Tryz.func81.trans (congrArg some (by kernel_rfl)),
 f197:=Tryz.func108.trans (congrArg some (by kernel_rfl)),
 f217:=Tryz.func159.trans (congrArg some (by kernel_rfl)),
 f224:=Tryz.func161.trans (congrArg some (by kernel_rfl)),
 f225:=Tryz.func160.trans (congrArg some (by kernel_rfl)),
 f227:=Tryz.func124.trans (congrArg some (by kernel_rfl)),
 f228:=Tryz.func172.trans (congrArg some (by kernel_rfl)),
 f231:=Tryz.func122.trans (congrArg some (by kernel_rfl)),
 f232:=Tryz.func123.trans (congrArg some (by kernel_rfl)),
 f233:=Tryz.func125.trans (congrArg some (by kernel_rfl)),
 f234:=Tryz.func126.trans (congrArg some (by kernel_rfl)),
 f235:=Tryz.func127.trans (congrArg some (by kernel_rfl)),
 f236:=Tryz.func128.trans (congrArg some (by kernel_rfl)),
 f260:=Tryz.func158.trans (congrArg some (by kernel_rfl)),
 f266:=Tryz.func196.trans (congrArg some (by kernel_rfl)),
 f271:=Tryz.func174.trans (congrArg some (by kernel_rfl)),
 t0:=Tryz.underlying0,
 a0:=Tryz.isAgg0,
 z0:=Tryz.sizeOf0,
 v0:=Tryz.zeroValue0,
 t3:=Tryz.underlying3,
 a3:=Tryz.isAgg3,
 z3:=Tryz.sizeOf3,
 v3:=Tryz.zeroValue3,
 t4:=Tryz.underlying4,
 a4:=Tryz.isAgg4,
 z4:=Tryz.sizeOf4,
 v4:=Tryz.zeroValue4,
 t5:=Tryz.underlying5,
 a5:=Tryz.isAgg5,
 z5:=Tryz.sizeOf5,
 v5:=Tryz.zeroValue5,
 t9:=Tryz.underlying9,
 a9:=Tryz.isAgg9,
 z9:=Tryz.sizeOf9,
 v9:=Tryz.zeroValue9,
 t21:=Tryz.underlying21,
 a21:=Tryz.isAgg21,
 z21:=Tryz.sizeOf21,
 v21:=Tryz.zeroValue21,
 t46:=Tryz.underlying172,
 a46:=Tryz.isAgg172,
 z46:=Tryz.sizeOf172,
 v46:=Tryz.zeroValue172,
 t105:=Tryz.underlying133,
 a105:=Tryz.isAgg133,
 z105:=Tryz.sizeOf133,
 v105:=Tryz.zeroValue133,
 t116:=Tryz.underlying152,
 a116:=Tryz.isAgg152,
 z116:=Tryz.sizeOf152,
 t117:=Tryz.underlying153,
 a117:=Tryz.isAgg153,
 z117:=Tryz.sizeOf153,
 v117:=Tryz.zeroValue153,
 t119:=Tryz.underlying205,
 a119:=Tryz.isAgg205,
 z119:=Tryz.sizeOf205,
 t124:=Tryz.underlying156,
 a124:=Tryz.isAgg156,
 z124:=Tryz.sizeOf156,
 v124:=Tryz.zeroValue156,
 t138:=Tryz.underlying207,
 a138:=Tryz.isAgg207,
 z138:=Tryz.sizeOf207,
 v138:=Tryz.zeroValue207,
 t139:=Tryz.underlying208,
 a139:=Tryz.isAgg208,
 z139:=Tryz.sizeOf208,
 v139:=Tryz.zeroValue208,
 g3:=by kernel_rfl,
 g4:=by kernel_rfl}
theorem EI:Lays.n171 Tryz.prog liR:={
 mixed:=by kernel_rfl,
 f129:=Tryz.func215.trans (congrArg some (by kernel_rfl)),
 f171:=Tryz.func45.trans (congrArg some (by kernel_rfl)),
 f243:=Tryz.func89.trans (congrArg some (by kernel_rfl)),
 f246:=Tryz.func139.trans (congrArg some (by kernel_rfl)),
 f283:=Tryz.func184.trans (congrArg some (by kernel_rfl)),
 f284:=Tryz.func185.trans (congrArg some (by kernel_rfl)),
 f285:=Tryz.func186.trans (congrArg some (by kernel_rfl)),
 f286:=Tryz.func187.trans (congrArg some (by kernel_rfl)),
 f317:=Tryz.func214.trans (congrArg some (by kernel_rfl)),
 f318:=Tryz.func216.trans (congrArg some (by kernel_rfl)),
 f319:=Tryz.func217.trans (congrArg some (by kernel_rfl)),
 f320:=Tryz.func218.trans (congrArg some (by kernel_rfl)),
 f337:=Tryz.func232.trans (congrArg some (by kernel_rfl)),
 f338:=Tryz.func233.trans (congrArg some (by kernel_rfl)),
 t0:=Tryz.underlying0,
 a0:=Tryz.isAgg0,
 z0:=Tryz.sizeOf0,
 v0:=Tryz.zeroValue0,
 t2:=Tryz.underlying2,
 a2:=Tryz.isAgg2,
 z2:=Tryz.sizeOf2,
 v2:=Tryz.zeroValue2,
 t3:=Tryz.underlying3,
 a3:=Tryz.isAgg3,
 z3:=Tryz.sizeOf3,
 v3:=Tryz.zeroValue3,
 t4:=Tryz.underlying4,
 a4:=Tryz.isAgg4,
 z4:=Tryz.sizeOf4,
 v4:=Tryz.zeroValue4,
 t5:=Tryz.underlying5,
 a5:=Tryz.isAgg5,
 z5:=Tryz.sizeOf5,
 v5:=Tryz.zeroValue5,
 t9:=Tryz.underlying9,
 a9:=Tryz.isAgg9,
 z9:=Tryz.sizeOf9,
 v9:=Tryz.zeroValue9,
 t20:=Tryz.underlying20,
 a20:=Tryz.isAgg20,
 z20:=Tryz.sizeOf20,
 v20:=Tryz.zeroValue20,
 t37:=Tryz.underlying22,
 a37:=Tryz.isAgg22,
 z37:=Tryz.sizeOf22,
 v37:=Tryz.zeroValue22,
 t46:=Tryz.underlying172,
 a46:=Tryz.isAgg172,
 z46:=Tryz.sizeOf172,
 v46:=Tryz.zeroValue172,
 t51:=Tryz.underlying209,
 a51:=Tryz.isAgg209,
 z51:=Tryz.sizeOf209,
 v51:=Tryz.zeroValue209,
 t53:=Tryz.underlying197,
 a53:=Tryz.isAgg197,
 z53:=Tryz.sizeOf197,
 v53:=Tryz.zeroValue197,
 t171:=Tryz.underlying196,
 a171:=Tryz.isAgg196,
 z171:=Tryz.sizeOf196,
 v171:=Tryz.zeroValue196,
 t173:=Tryz.underlying200,
 a173:=Tryz.isAgg200,
 z173:=Tryz.sizeOf200,
 v173:=Tryz.zeroValue200,
 t212:=Tryz.underlying229,
 a212:=Tryz.isAgg229,
 z212:=Tryz.sizeOf229,
 v212:=Tryz.zeroValue229,
 t213:=Tryz.underlying230,
 a213:=Tryz.isAgg230,
 z213:=Tryz.sizeOf230,
 t232:=Tryz.underlying251,
 a232:=Tryz.isAgg251,
 z232:=Tryz.sizeOf251,
 v232:=Tryz.zeroValue251,
 t233:=Tryz.underlying252,
 a233:=Tryz.isAgg252,
 z233:=Tryz.sizeOf252,
 v233:=Tryz.zeroValue252,
 g17:=by kernel_rfl,
 g18:=by kernel_rfl,
 g19:=by kernel_rfl}
theorem EJ:Lays.n172 Tryz.prog liR:={
 mixed:=by kernel_rfl,
 f129:=Tryz.func215.trans (congrArg some (by kernel_rfl)),
 f171:=Tryz.func45.trans (congrArg some (by kernel_rfl)),
 f172:=Tryz.func82.trans (congrArg some (by kernel_rfl)),
 f205:=Tryz.func212.trans (congrArg some (by kernel_rfl)),
 f243:=Tryz.func89.trans (congrArg some (by kernel_rfl)),
 f244:=Tryz.func129.trans (congrArg some (by kernel_rfl)),
 f245:=Tryz.func130.trans (congrArg some (by kernel_rfl)),
 f246:=Tryz.func139.trans (congrArg some (by kernel_rfl)),
 f247:=Tryz.func175.trans (congrArg some (by kernel_rfl)),
 f279:=Tryz.func176.trans (congrArg some (by kernel_rfl)),
 f280:=Tryz.func177.trans (congrArg some (by kernel_rfl)),
 f281:=Tryz.func178.trans (congrArg some (by kernel_rfl)),
 f282:=Tryz.func179.trans (congrArg some (by kernel_rfl)),
 f283:=Tryz.func184.trans (congrArg some (by kernel_rfl)),
 f284:=Tryz.func185.trans (congrArg some (by kernel_rfl)),
 f285:=Tryz.func186.trans (congrArg some (by kernel_rfl)),
 f286:=Tryz.func187.trans (congrArg some (by kernel_rfl)),
 f287:=Tryz.func210.trans (congrArg some (by kernel_rfl)),
 f316:=Tryz.func211.trans (congrArg some (by kernel_rfl)),
 f317:=Tryz.func214.trans (congrArg some (by kernel_rfl)),
 f318:=Tryz.func216.trans (congrArg some (by kernel_rfl)),
 f319:=Tryz.func217.trans (congrArg some (by kernel_rfl)),
 f320:=Tryz.func218.trans (congrArg some (by kernel_rfl)),
 f321:=Tryz.func230.trans (congrArg some (by kernel_rfl)),
 f322:=Tryz.func231.trans (congrArg some (by kernel_rfl)),
 f337:=Tryz.func232.trans (congrArg some (by kernel_rfl)),
 f338:=Tryz.func233.trans (congrArg some (by kernel_rfl)),
 t0:=Tryz.underlying0,
 a0:=Tryz.isAgg0,
 z0:=Tryz.sizeOf0,
 v0:=Tryz.zeroValue0,
 t2:=Tryz.underlying2,
 a2:=Tryz.isAgg2,
 z2:=Tryz.sizeOf2,
 v2:=Tryz.zeroValue2,
 t3:=Tryz.underlying3,
 a3:=Tryz.isAgg3,
 z3:=Tryz.sizeOf3,
 v3:=Tryz.zeroValue3,
 t4:=Tryz.underlying4,
 a4:=Tryz.isAgg4,
 z4:=Tryz.sizeOf4,
 v4:=Tryz.zeroValue4,
 t5:=Tryz.underlying5,
 a5:=Tryz.isAgg5,
 z5:=Tryz.sizeOf5,
 v5:=Tryz.zeroValue5,
 t9:=Tryz.underlying9,
 a9:=Tryz.isAgg9,
 z9:=Tryz.sizeOf9,
 v9:=Tryz.zeroValue9,
 t20:=Tryz.underlying20,
 a20:=Tryz.isAgg20,
 z20:=Tryz.sizeOf20,
 v20:=Tryz.zeroValue20,
 t21:=Tryz.underlying21,
 a21:=Tryz.isAgg21,
 z21:=Tryz.sizeOf21,
 v21:=Tryz.zeroValue21,
 t37:=Tryz.underlying22,
 a37:=Tryz.isAgg22,
 z37:=Tryz.sizeOf22,
 v37:=Tryz.zeroValue22,
 t46:=Tryz.underlying172,
 a46:=Tryz.isAgg172,
 z46:=Tryz.sizeOf172,
 v46:=Tryz.zeroValue172,
 t51:=Tryz.underlying209,
 a51:=Tryz.isAgg209,
 z51:=Tryz.sizeOf209,
 v51:=Tryz.zeroValue209,
 t53:=Tryz.underlying197,
 a53:=Tryz.isAgg197,
 z53:=Tryz.sizeOf197,
 v53:=Tryz.zeroValue197,
 t75:=Tryz.underlying54,
 a75:=Tryz.isAgg54,
 z75:=Tryz.sizeOf54,
 v75:=Tryz.zeroValue54,
 t76:=Tryz.underlying55,
 a76:=Tryz.isAgg55,
 z76:=Tryz.sizeOf55,
 v76:=Tryz.zeroValue55,
 t85:=Tryz.underlying186,
 a85:=Tryz.isAgg186,
 z85:=Tryz.sizeOf186,
 v85:=Tryz.zeroValue186,
 t127:=Tryz.underlying80,
 a127:=Tryz.isAgg80,
 z127:=Tryz.sizeOf80,
 v127:=Tryz.zeroValue80,
 t143:=Tryz.underlying243,
 a143:=Tryz.isAgg243,
 z143:=Tryz.sizeOf243,
 v143:=Tryz.zeroValue243,
 t145:=Tryz.underlying245,
 a145:=Tryz.isAgg245,
 z145:=Tryz.sizeOf245,
 v145:=Tryz.zeroValue245,
 t167:=Tryz.underlying185,
 a167:=Tryz.isAgg185,
 z167:=Tryz.sizeOf185,
 v167:=Tryz.zeroValue185,
 t168:=Tryz.underlying188,
 a168:=Tryz.isAgg188,
 z168:=Tryz.sizeOf188,
 v168:=Tryz.zeroValue188,
 t171:=Tryz.underlying196,
 a171:=Tryz.isAgg196,
 z171:=Tryz.sizeOf196,
 v171:=Tryz.zeroValue196,
 t173:=Tryz.underlying200,
 a173:=Tryz.isAgg200,
 z173:=Tryz.sizeOf200,
 v173:=Tryz.zeroValue200,
 t175:=Tryz.underlying220,
 a175:=Tryz.isAgg220,
 z175:=Tryz.sizeOf220,
 v175:=Tryz.zeroValue220,
 t210:=Tryz.underlying224,
 a210:=Tryz.isAgg224,
 z210:=Tryz.sizeOf224,
 v210:=Tryz.zeroValue224,
 t212:=Tryz.underlying229,
 a212:=Tryz.isAgg229,
 z212:=Tryz.sizeOf229,
 v212:=Tryz.zeroValue229,
 t213:=Tryz.underlying230,
 a213:=Tryz.isAgg230,
 z213:=Tryz.sizeOf230,
 t232:=Tryz.underlying251,
 a232:=Tryz.isAgg251,
 z232:=Tryz.sizeOf251,
 v232:=Tryz.zeroValue251,
 t233:=Tryz.underlying252,
 a233:=Tryz.isAgg252,
 z233:=Tryz.sizeOf252,
 v233:=Tryz.zeroValue252,
 g15:=by kernel_rfl,
 g16:=by kernel_rfl,
 g17:=by kernel_rfl,
 g18:=by kernel_rfl,
 g19:=by kernel_rfl}
theorem Dr:Lays.n166 Tryz.prog liR:={
 mixed:=by kernel_rfl,
 f166:=Tryz.func26.trans (congrArg some (by kernel_rfl)),
 f240:=Tryz.func39.trans (congrArg some (by kernel_rfl)),
 f276:=Tryz.func66.trans (congrArg some (by kernel_rfl)),
 t0:=Tryz.underlying0,
 a0:=Tryz.isAgg0,
 z0:=Tryz.sizeOf0,
 v0:=Tryz.zeroValue0,
 t3:=Tryz.underlying3,
 a3:=Tryz.isAgg3,
 z3:=Tryz.sizeOf3,
 v3:=Tryz.zeroValue3,
 t4:=Tryz.underlying4,
 a4:=Tryz.isAgg4,
 z4:=Tryz.sizeOf4,
 v4:=Tryz.zeroValue4,
 t9:=Tryz.underlying9,
 a9:=Tryz.isAgg9,
 z9:=Tryz.sizeOf9,
 v9:=Tryz.zeroValue9,
 t20:=Tryz.underlying20,
 a20:=Tryz.isAgg20,
 z20:=Tryz.sizeOf20,
 v20:=Tryz.zeroValue20,
 t37:=Tryz.underlying22,
 a37:=Tryz.isAgg22,
 z37:=Tryz.sizeOf22,
 v37:=Tryz.zeroValue22,
 t70:=Tryz.underlying48,
 a70:=Tryz.isAgg48,
 z70:=Tryz.sizeOf48,
 v70:=Tryz.zeroValue48,
 t72:=Tryz.underlying50,
 a72:=Tryz.isAgg50,
 z72:=Tryz.sizeOf50,
 v72:=Tryz.zeroValue50,
 t75:=Tryz.underlying54,
 a75:=Tryz.isAgg54,
 z75:=Tryz.sizeOf54,
 v75:=Tryz.zeroValue54,
 t164:=Tryz.underlying107,
 a164:=Tryz.isAgg107,
 z164:=Tryz.sizeOf107,
 v164:=Tryz.zeroValue107}
theorem zJ:Lays.n169 Tryz.prog liR:={
 mixed:=by kernel_rfl,
 f169:=Tryz.func28.trans (congrArg some (by kernel_rfl)),
 t0:=Tryz.underlying0,
 a0:=Tryz.isAgg0,
 z0:=Tryz.sizeOf0,
 v0:=Tryz.zeroValue0,
 t3:=Tryz.underlying3,
 a3:=Tryz.isAgg3,
 z3:=Tryz.sizeOf3,
 v3:=Tryz.zeroValue3,
 t9:=Tryz.underlying9,
 a9:=Tryz.isAgg9,
 z9:=Tryz.sizeOf9,
 v9:=Tryz.zeroValue9,
 t37:=Tryz.underlying22,
 a37:=Tryz.isAgg22,
 z37:=Tryz.sizeOf22,
 v37:=Tryz.zeroValue22,
 t70:=Tryz.underlying48,
 a70:=Tryz.isAgg48,
 z70:=Tryz.sizeOf48,
 v70:=Tryz.zeroValue48,
 t72:=Tryz.underlying50,
 a72:=Tryz.isAgg50,
 z72:=Tryz.sizeOf50,
 v72:=Tryz.zeroValue50,
 t127:=Tryz.underlying80,
 a127:=Tryz.isAgg80,
 z127:=Tryz.sizeOf80,
 v127:=Tryz.zeroValue80}
theorem sS:Builder.Extra Tryz.prog liR:={
 sizeBuilder:=by kernel_rfl,
 liesBuilder:=by kernel_rfl,
 t5:=Tryz.underlying5,
 a5:=Tryz.isAgg5,
 z5:=Tryz.sizeOf5,
 v5:=Tryz.zeroValue5,
 infoByte:=by kernel_rfl,
 cellsByte:=by kernel_rfl,
 sizeByte:=by kernel_rfl,
 neB5:=by decide}
end Dx
namespace Dx
open Go
def tab:List (Nat×TI) :=
 [(3,⟨.int .i64,1,false,[.int .i64 (.n 0)],8⟩),
   (4,⟨.bool,1,false,[.bool (.b false)],1⟩),
   (5,⟨.int .u8,1,false,[.int .u8 (.n 0)],1⟩),
   (9,⟨.str,1,false,[.str (.s ⟨#[]⟩)],16⟩),
   (22,⟨.slice 5,1,false,[.nil],24⟩),
   (23,⟨.slice 3,1,false,[.nil],24⟩),
   (37,⟨.slice 138,1,false,[.nil],24⟩),
   (39,⟨.struct [(0,1,false),(1,1,false)],2,true,[.nil,.int .i64 (.n 0)],32⟩),
   (40,⟨.slice 97,1,false,[.nil],24⟩),
   (42,⟨.struct [(0,1,false),(1,2,true),(3,1,false)],4,true,[.bool (.b false),.nil,.int .i64 (.n 0),.nil],64⟩),
   (43,⟨.slice 68,1,false,[.nil],24⟩),
   (45,⟨.struct [(0,4,true),(4,1,false),(5,1,false)],6,true,[.bool (.b false),.nil,.int .i64 (.n 0),.nil,.nil,.nil],112⟩),
   (50,⟨.bld 5,2,true,[.nilptr,.nil],32⟩),
   (51,⟨.slice 9,1,false,[.nil],24⟩),
   (64,⟨.struct [(0,1,false),(1,1,false)],2,true,[.nil,.int .i64 (.n 0)],32⟩),
   (68,⟨.struct [(0,1,false),(1,1,false),(2,1,false),(3,2,true)],5,true,[.int .i64 (.n 0),.bool (.b false),.int .i64 (.n 0),.nil,.int .i64 (.n 0)],56⟩),
   (73,⟨.map 9 3,1,false,[.any],8⟩),
   (78,⟨.struct [(0,1,false),(1,1,false),(2,1,false),(3,1,false)],4,true,[.int .i64 (.n 0),.int .i64 (.n 0),.int .i64 (.n 0),.nil],48⟩),
   (81,⟨.slice 84,1,false,[.nil],24⟩),
   (84,⟨.struct [(0,1,false),(1,1,false)],2,true,[.nil,.int .i64 (.n 0)],32⟩),
   (85,⟨.slice 88,1,false,[.nil],24⟩),
   (88,⟨.struct [(0,1,false),(1,1,false)],2,true,[.int .i64 (.n 0),.int .i64 (.n 0)],16⟩),
   (90,⟨.struct [(0,1,false),(1,1,false)],2,true,[.int .i64 (.n 0),.nil],32⟩),
   (97,⟨.struct [(0,1,false),(1,1,false),(2,1,false),(3,1,false)],4,true,[.int .i64 (.n 0),.int .i64 (.n 0),.int .i64 (.n 0),.int .i64 (.n 0)],32⟩),
   (138,⟨.struct [(0,1,false),(1,1,false),(2,1,false)],3,true,[.int .i64 (.n 0),.int .i64 (.n 0),.nil],40⟩),
   (140,⟨.arr 2 3,2,true,[.int .i64 (.n 0),.int .i64 (.n 0)],16⟩),
   (141,⟨.map 3 140,1,false,[.any],8⟩),
   (192,⟨.slice 40,1,false,[.nil],24⟩)]
def tab':Tab:=Ah tab
theorem Lf:cj Proofs.Tryz.prog (Ah tab):=HS (by kernel_rfl)
end Dx
namespace Dx
open Go Go.Proofs
def eqs:List (Nat×Nat):=[(97,4),(88,2)]
theorem Lg:D3 Tryz.prog (Cv eqs):=Nv (by kernel_rfl)
theorem qa:Tryz.prog.follows .mixedOrders=true:=by kernel_rfl
def aV:List (Nat×List Sh):=[(68,[.val,.val,.val,(.arr 138 [.val,.val,.val]),.val])]
def vz(fn:Func):Code:=match fn.body with
 | some b=>b
 | none=>.skip
def bs:List (Nat×Bool×Nat×Nat):=[(26,true,50,5),(28,false,50,5)]
set_option maxRecDepth 100000 in
theorem bs_ok:∀ p∈bs,sc Tryz.prog p.1 p.2:=by
 intro p hp
 simp only[bs,List.mem_cons,List.not_mem_nil,or_false]at hp
 rcases hp with rfl|rfl
 ·exact Nx Dr sS
 ·exact HV zJ sS
def gE(R:List (Nat×List Sh))(tr:Bool)(E:List (Nat×Nat×Con)):Env:=⟨Ah tab,Cv eqs,getR R,GB E,tr,HT bs⟩
abbrev hE:How:=⟨aB [],aB [],aB []⟩
abbrev sI(n:Nat):SV:=.int .i64 (.v n)
theorem fo{G:Env}{Φ:Phi}(hG:EnvOk Tryz.prog G Φ){f:FuncId}(fn:Func){c:Con}(H:How){t:Tree}(h:(Tryz.prog.funcs[f]?,fn.body,fn.name== "runtime.NumGoroutine",fnT G H c fn (vz fn))=(some fn,some (vz fn),false,t)):Has Tryz.prog f c (fun cs=>ai (den Φ t cs)):=by
 simp only[Prod.mk.injEq]at h
 exact fn_ok hG h.1 h.2.1 h.2.2.1 h.2.2.2
theorem eo{E:Nat->List (Nat×Con)}{R:Rows}{tr:Bool}{Φ:Phi}(h:∀ f c,c∈E f->Has Tryz.prog f c.2 (Φ c.1)):EnvOk Tryz.prog ⟨Ah tab,Cv eqs,R,E,tr,HT bs⟩ Φ:=⟨Lf,Lg,h,qa,Cw bs_ok⟩
theorem fp{E:List (Nat×Nat×Con)}{R:List (Nat×List Sh)}{tr:Bool}{Φ:Phi}(m:Bx Tryz.prog Φ E){f:FuncId}(fn:Func){c:Con}(H:How){t:Tree}(h:(Tryz.prog.funcs[f]?,fn.body,fn.name== "runtime.NumGoroutine",fnT (gE R tr E) H c fn (vz fn))=(some fn,some (vz fn),false,t)):Has Tryz.prog f c (fun cs=>ai (den Φ t cs)):=fo (eo (pN (kL m))) fn H h
abbrev v5:List Sh:=[.val,.val,.val,.val,.val]
abbrev v4:List Sh:=[.val,.val,.val,.val]
abbrev v3:List Sh:=[.val,.val,.val]
abbrev kW:List CK:=[.bool,.list,kI,.list,.list,.list]
abbrev kD:List CK:=[.bool,.list,kI,.list]
abbrev kH:List CK:=[kI,.bool,kI,.list,kI]
abbrev kJ:List CK:=[kI,kI,kI,kI]
def c_fn:Con:=⟨[.own false [.val] [.list] false],[⟨false,[.val,.val],[.list,kI],true⟩]⟩
theorem Lh:Has Tryz.prog 19 c_fn xH:=fp (R:=aV) (tr:=false) (E:=[]) (Φ:=ph []) (t:=t_fn) trivial Tryz.f19 hE (by kernel_rfl)
def Hw:Con:=⟨[.ptr [.val,.val] [.list,kI],.ro false [kI]],[⟨false,[.val],[kI],false⟩]⟩
theorem vA:Has Tryz.prog 20 Hw dy:=fp (R:=aV) (tr:=false) (E:=[]) (Φ:=ph []) (t:=t_cp) trivial Tryz.f20 hE (by kernel_rfl)
def BT:Con:=⟨[.ro false [kI]],[⟨false,[.val],[.str],false⟩]⟩
def g_go:Env:=gE aV false [(34,0,BT)]
theorem w8:∀ k,Has Tryz.prog 34 BT (li k)
 | 0=>⟨cZ (fn:=Tryz.f34) (by kernel_rfl) (by kernel_rfl) (by kernel_rfl),fun _ _ _ _ _ _ _ _ _ _ h=>by cases h⟩
 | k+1=>fo (G:=g_go) (Φ:=ph [li k]) (t:=Ff) (eo (pN (kL ⟨w8 k,trivial⟩))) Tryz.f34 hE (by kernel_rfl)
theorem qP:Has Tryz.prog 34 BT dJ:=w8 3
def c_fb:Con:=⟨[.ptr [.val,.val] [.list,kI],.ro false [.list]],[⟨false,[.val],[.str],false⟩]⟩
theorem Li:Has Tryz.prog 35 c_fb lj:=fp (R:=aV) (tr:=false) (E:=[(20,0,Hw)]) (Φ:=HY) (t:=t_fb) ⟨vA,trivial⟩ Tryz.f35 hE (by kernel_rfl)
def c_ez:Con:=⟨[.ptr [.val,.val] [.list,kI]],[⟨false,[.val],[.str],false⟩]⟩
def h_ez:How:=⟨aB [],
 aB [(13,⟨[.bool],[(37,(.bool (.v 0)))],[],[],0⟩),(10,⟨[.bool],[(30,(.bool (.v 0)))],[],[],0⟩),(7,⟨[.bool],[(23,(.bool (.v 0)))],[],[],0⟩),(4,⟨[.bool],[(5,(.bool (.v 0)))],[],[],0⟩)],
 aB []⟩
theorem Lj:Has Tryz.prog 21 c_ez xI:=fp (R:=aV) (tr:=false) (E:=[(20,0,Hw),(34,1,BT),(35,2,c_fb)]) (Φ:=HZ) (t:=t_ez) ⟨vA,qP,Li,trivial⟩ Tryz.f21 h_ez (by kernel_rfl)
def c_gg:Con:=⟨[.ro false [.str],.ro false [kI]],[⟨false,[.val],[.str],false⟩]⟩
def h_gg:How:=⟨aB [(0,⟨[.str,.str,kI],[(5,(.str (.v 0))),(0,(.str (.v 1))),(1,(sI 2))],[],[],0⟩)],
 aB [],
 aB []⟩
theorem Lk:Has Tryz.prog 22 c_gg xJ:=fp (R:=aV) (tr:=false) (E:=[]) (Φ:=ph []) (t:=t_gg) trivial Tryz.f22 h_gg (by kernel_rfl)
def c_dp:Con:=⟨[.ptr [.val,.val] [.list,kI]],[⟨false,[(.arr 3 [.val])],[.list],false⟩]⟩
theorem Ll:Has Tryz.prog 23 c_dp uA:=fp (R:=aV) (tr:=false) (E:=[(20,0,Hw)]) (Φ:=H0) (t:=t_dp) ⟨vA,trivial⟩ Tryz.f23 hE (by kernel_rfl)
def ug:Con:=⟨[.own false [.val] [.list] false],[⟨false,[.val],[.list],false⟩,⟨false,[.val],[.str],false⟩]⟩
def h_bd:How:=⟨aB [(0,⟨[.str,kI,.list,kI],[(5,(.str (.v 0))),(6,(sI 1))],[(0,.cells [(.view true (.v 2)),(sI 3)])],[],0⟩)],
 aB [],
 aB []⟩
theorem gX:Has Tryz.prog 14 ug il:=fp (R:=aV) (tr:=false) (E:=[(19,0,c_fn),(20,1,Hw),(21,2,c_ez),(22,3,c_gg),(23,4,c_dp)]) (Φ:=H1) (t:=t_bd) ⟨Lh,vA,Lj,Lk,Ll,trivial⟩ Tryz.f14 h_bd (by kernel_rfl)
def c_ff:Con:=⟨[],[⟨true,[.val,.val,.val,(.arr 97 v4)],kD,false⟩]⟩
theorem Lm:Has Tryz.prog 36 c_ff xK:=fp (R:=[]) (tr:=false) (E:=[]) (Φ:=ph []) (t:=t_ff) trivial Tryz.f36 hE (by kernel_rfl)
def lS:Con:=⟨[.ro false [kI],.ro false [kI],.ro false [kI]],[⟨false,[.val],[.bool],false⟩]⟩
theorem dO:Has Tryz.prog 62 lS bK:=fp (R:=[]) (tr:=false) (E:=[]) (Φ:=ph []) (t:=t_gy) trivial Tryz.f62 hE (by kernel_rfl)
def DY:Con:=⟨[.ro false [kI]],[⟨false,[.val],[.bool],false⟩]⟩
theorem nK:Has Tryz.prog 61 DY fZ:=fp (R:=[]) (tr:=false) (E:=[(62,0,lS)]) (Φ:=H2) (t:=t_fi) ⟨dO,trivial⟩ Tryz.f61 hE (by kernel_rfl)
def c_di:Con:=⟨[.ro false [kI],.ro false [kI]],[⟨true,v5,kH,false⟩,⟨false,[.val],[.bool],false⟩]⟩
theorem Ln:Has Tryz.prog 37 c_di xL:=fp (R:=[]) (tr:=false) (E:=[(61,0,DY),(62,1,lS)]) (Φ:=H3) (t:=t_di) ⟨nK,dO,trivial⟩ Tryz.f37 hE (by kernel_rfl)
def c_ec:Con:=⟨[.ro false [.list]],[⟨true,[.val,.val,.val,(.arr 97 v4),(.arr 68 v5),(.arr 97 v4)],kW,false⟩,⟨false,[.val],[.bool],false⟩]⟩
def h_ec:How:=⟨aB [(0,⟨[kI,.list],[(3,(.bool (.b false))),(17,(sI 0))],[(2,.cells [(.bool (.v 1003)),(.view true (.v 1004)),(sI 1005),(.sl 1),(.sl 1000),.nil]),(1000,.arr 68 v5 (.v 1))],[],1⟩)],
 aB [],
 aB []⟩
theorem Lo:Has Tryz.prog 24 c_ec xM:=fp (R:=[]) (tr:=false) (E:=[(36,0,c_ff),(37,1,c_di)]) (Φ:=H4) (t:=t_ec) ⟨Lm,Ln,trivial⟩ Tryz.f24 h_ec (by kernel_rfl)
def c_dn:Con:=jn 9
theorem Lp:Has Tryz.prog 25 c_dn lM:=DD Dq (by kernel_rfl) rfl
def iX:Con:=l6
theorem lT:Has Tryz.prog 81 iX bV:=Fa EH (by kernel_rfl)
def iY:Con:=l9
theorem lU:Has Tryz.prog 82 iY bW:=Fd EJ
def c_fp:Con:=⟨[.ro false [.list],.ro false [kI]],[⟨false,[.val],[kI],false⟩]⟩
theorem Lq:Has Tryz.prog 41 c_fp im:=fp (R:=[]) (tr:=false) (E:=[(62,0,lS),(81,1,iX),(82,2,iY)]) (Φ:=H5) (t:=t_fp) ⟨dO,lT,lU,trivial⟩ Tryz.f41 hE (by kernel_rfl)
def c_bs:Con:=⟨[.ro false [kI]],[⟨false,[.val],[.bool],false⟩]⟩
theorem Lr:Has Tryz.prog 201 c_bs xN:=fp (R:=[]) (tr:=false) (E:=[(62,0,lS)]) (Φ:=H6) (t:=t_bs) ⟨dO,trivial⟩ Tryz.f201 hE (by kernel_rfl)
def c_an:Con:=⟨[.ro false [.list],.fn 201 []],[⟨false,[.val],[kI],false⟩]⟩
def h_an:How:=⟨aB [(0,⟨[kI],[(4,(.int .i64 (.n 0))),(8,(sI 0))],[],[],0⟩)],
 aB [],
 aB []⟩
theorem Ls:Has Tryz.prog 225 c_an xO:=fp (R:=[]) (tr:=false) (E:=[(201,0,c_bs)]) (Φ:=H7) (t:=t_an) ⟨Lr,trivial⟩ Tryz.f225 h_an (by kernel_rfl)
def c_ak:Con:=⟨[.ro false [.list],.fn 201 []],[⟨false,[.val],[.bool],false⟩]⟩
theorem Lt:Has Tryz.prog 203 c_ak xP:=fp (R:=[]) (tr:=false) (E:=[(225,0,c_an)]) (Φ:=H8) (t:=t_ak) ⟨Ls,trivial⟩ Tryz.f203 hE (by kernel_rfl)
def c_by:Con:=⟨[.ro false [kI]],[⟨false,[.val],[.bool],false⟩]⟩
theorem Lu:Has Tryz.prog 202 c_by xQ:=fp (R:=[]) (tr:=false) (E:=[]) (Φ:=ph []) (t:=t_by) trivial Tryz.f202 hE (by kernel_rfl)
def c_ao:Con:=⟨[.ro false [.list],.fn 202 []],[⟨false,[.val],[kI],false⟩]⟩
def h_ao:How:=⟨aB [(0,⟨[kI],[(4,(.int .i64 (.n 0))),(8,(sI 0))],[],[],0⟩)],
 aB [],
 aB []⟩
theorem Lv:Has Tryz.prog 225 c_ao xR:=fp (R:=[]) (tr:=false) (E:=[(202,0,c_by)]) (Φ:=H9) (t:=t_ao) ⟨Lu,trivial⟩ Tryz.f225 h_ao (by kernel_rfl)
def c_al:Con:=⟨[.ro false [.list],.fn 202 []],[⟨false,[.val],[.bool],false⟩]⟩
theorem Lw:Has Tryz.prog 203 c_al xS:=fp (R:=[]) (tr:=false) (E:=[(225,0,c_ao)]) (Φ:=Ib) (t:=t_al) ⟨Lv,trivial⟩ Tryz.f203 hE (by kernel_rfl)
def c_dq:Con:=⟨[.ro false [.list]],[⟨false,[.val],[.bool],false⟩]⟩
theorem Fz:Has Tryz.prog 167 c_dq rq:=fp (R:=[]) (tr:=false) (E:=[(203,0,c_ak),(203,1,c_al)]) (Φ:=Ic) (t:=t_dq) ⟨Lt,Lw,trivial⟩ Tryz.f167 hE (by kernel_rfl)
def Hx:Con:=⟨[.ro false [kI]],[⟨false,[.val],[.bool],false⟩]⟩
theorem vC:Has Tryz.prog 90 Hx gC:=fp (R:=[]) (tr:=false) (E:=[(62,0,lS)]) (Φ:=Ie) (t:=t_gj) ⟨dO,trivial⟩ Tryz.f90 hE (by kernel_rfl)
def FB:Con:=⟨[.ro true [kI,kI,.list]],[⟨false,[.val],[.bool],false⟩]⟩
theorem qQ:Has Tryz.prog 113 FB iH:=fp (R:=[]) (tr:=false) (E:=[(62,0,lS),(167,1,c_dq),(90,2,Hx)]) (Φ:=If) (t:=t_gr) ⟨dO,Fz,vC,trivial⟩ Tryz.f113 hE (by kernel_rfl)
def c_ek:Con:=⟨[.ro true [kI,kI,.list]],[⟨false,[.val],[.bool],false⟩]⟩
theorem Lx:Has Tryz.prog 198 c_ek xT:=fp (R:=[]) (tr:=false) (E:=[(113,0,FB)]) (Φ:=Ig) (t:=t_ek) ⟨qQ,trivial⟩ Tryz.f198 hE (by kernel_rfl)
def c_am:Con:=⟨[.ro false [.list],.fn 198 []],[⟨false,[.val],[kI],false⟩]⟩
def h_am:How:=⟨aB [(0,⟨[kI],[(4,(.int .i64 (.n 0))),(8,(sI 0))],[],[],0⟩)],
 aB [],
 aB []⟩
theorem Ly:Has Tryz.prog 224 c_am xU:=fp (R:=[]) (tr:=false) (E:=[(198,0,c_ek)]) (Φ:=Ih) (t:=t_am) ⟨Lx,trivial⟩ Tryz.f224 h_am (by kernel_rfl)
def c_ag:Con:=⟨[.ro false [.list],.fn 198 []],[⟨false,[.val],[.bool],false⟩]⟩
theorem Lz:Has Tryz.prog 199 c_ag xV:=fp (R:=[]) (tr:=false) (E:=[(224,0,c_am)]) (Φ:=Ii) (t:=t_ag) ⟨Ly,trivial⟩ Tryz.f199 hE (by kernel_rfl)
def FC:Con:=⟨[.ro true [.list,kI]],[⟨false,[.val],[.bool],false⟩]⟩
theorem qR:Has Tryz.prog 163 FC iI:=fp (R:=[]) (tr:=false) (E:=[(62,0,lS),(199,1,c_ag)]) (Φ:=Ij) (t:=t_gn) ⟨dO,Lz,trivial⟩ Tryz.f163 hE (by kernel_rfl)
def c_ck:Con:=⟨[.ro true [.list,kI]],[⟨false,[.val],[.bool],false⟩]⟩
theorem LA:Has Tryz.prog 226 c_ck xW:=fp (R:=[]) (tr:=false) (E:=[(167,0,c_dq),(62,1,lS)]) (Φ:=Ik) (t:=t_ck) ⟨Fz,dO,trivial⟩ Tryz.f226 hE (by kernel_rfl)
def c_ai:Con:=⟨[.ro false [.list],.fn 226 []],[⟨false,[.val],[kI],false⟩]⟩
def h_ai:How:=⟨aB [(0,⟨[kI],[(4,(.int .i64 (.n 0))),(8,(sI 0))],[],[],0⟩)],
 aB [],
 aB []⟩
theorem LB:Has Tryz.prog 239 c_ai xX:=fp (R:=[]) (tr:=false) (E:=[(226,0,c_ck)]) (Φ:=Il) (t:=t_ai) ⟨LA,trivial⟩ Tryz.f239 h_ai (by kernel_rfl)
def c_ac:Con:=⟨[.ro false [.list],.fn 226 []],[⟨false,[.val],[.bool],false⟩]⟩
theorem LC:Has Tryz.prog 227 c_ac xY:=fp (R:=[]) (tr:=false) (E:=[(239,0,c_ai)]) (Φ:=In) (t:=t_ac) ⟨LB,trivial⟩ Tryz.f227 hE (by kernel_rfl)
def c_fd:Con:=⟨[.ro false [.list]],[⟨false,[.val],[.bool],false⟩]⟩
theorem LD:Has Tryz.prog 204 c_fd xZ:=fp (R:=[]) (tr:=false) (E:=[(227,0,c_ac)]) (Φ:=Io) (t:=t_fd) ⟨LC,trivial⟩ Tryz.f204 hE (by kernel_rfl)
def c_fk:Con:=⟨[.ro false [.list],.ro false [kI]],[⟨false,[.val],[kI],false⟩]⟩
theorem FD:Has Tryz.prog 205 c_fk rr:=fp (R:=[]) (tr:=false) (E:=[(62,0,lS)]) (Φ:=Ip) (t:=t_fk) ⟨dO,trivial⟩ Tryz.f205 hE (by kernel_rfl)
def c_dt:Con:=⟨[.ro false [.list],.ro true [kI,kI,.list]],[⟨false,[.val],[.bool],false⟩]⟩
theorem FE:Has Tryz.prog 168 c_dt rt:=fp (R:=[]) (tr:=false) (E:=[(204,0,c_fd),(113,1,FB),(205,2,c_fk)]) (Φ:=Iq) (t:=t_dt) ⟨LD,qQ,FD,trivial⟩ Tryz.f168 hE (by kernel_rfl)
def c_bo:Con:=⟨[.ro false [.list]],[⟨false,[.val],[.list],false⟩]⟩
theorem FF:Has Tryz.prog 183 c_bo oh:=fp (R:=[]) (tr:=false) (E:=[]) (Φ:=ph []) (t:=t_bo) trivial Tryz.f183 hE (by kernel_rfl)
def c_ey:Con:=⟨[.ro false [.list],.ro true [kI,kI,.list]],[⟨false,[.val],[.list],false⟩,⟨false,[.val],[.bool],false⟩]⟩
def h_ey:How:=⟨aB [(0,⟨[kI,.list],[(6,(.sl 1000)),(16,(sI 0))],[(1000,.arr 84 [.val,.val] (.v 1))],[],1⟩)],
 aB [],
 aB []⟩
theorem LF:Has Tryz.prog 138 c_ey ya:=fp (R:=[]) (tr:=false) (E:=[(168,0,c_dt),(183,1,c_bo)]) (Φ:=Ir) (t:=t_ey) ⟨FE,FF,trivial⟩ Tryz.f138 h_ey (by kernel_rfl)
def c_ef:Con:=⟨[.ro false [.list]],[⟨false,[.val],[.list],false⟩,⟨false,[.val],[.bool],false⟩]⟩
def h_ef:How:=⟨aB [(0,⟨[.list,.bool,kI],[(4,(.view true (.v 0))),(5,(.bool (.v 1))),(6,(sI 2))],[],[],0⟩)],
 aB [],
 aB []⟩
theorem FH:Has Tryz.prog 87 c_ef ru:=fp (R:=[]) (tr:=false) (E:=[(138,0,c_ey)]) (Φ:=Is) (t:=t_ef) ⟨LF,trivial⟩ Tryz.f87 h_ef (by kernel_rfl)
def FI:Con:=⟨[.ro true kJ],[⟨false,[.val],[.bool],false⟩]⟩
theorem qS:Has Tryz.prog 133 FI iJ:=fp (R:=[]) (tr:=false) (E:=[(62,0,lS),(61,1,DY),(90,2,Hx)]) (Φ:=It) (t:=t_gh) ⟨dO,nK,vC,trivial⟩ Tryz.f133 hE (by kernel_rfl)
def FJ:Con:=⟨[.ro true kJ],[⟨false,[.val],[.bool],false⟩]⟩
theorem qT:Has Tryz.prog 164 FJ iK:=fp (R:=[]) (tr:=false) (E:=[]) (Φ:=ph []) (t:=t_bk) trivial Tryz.f164 hE (by kernel_rfl)
def c_au:Con:=⟨[.ro false [.list],.ro true kJ],[⟨false,[.val],[kI],false⟩]⟩
def h_au:How:=⟨aB [(0,⟨[kI],[(4,(.int .i64 (.n 0))),(8,(sI 0))],[],[],0⟩)],
 aB [],
 aB []⟩
theorem LG:Has Tryz.prog 200 c_au yb:=fp (R:=[]) (tr:=false) (E:=[]) (Φ:=ph []) (t:=t_au) trivial Tryz.f200 h_au (by kernel_rfl)
def Kv:Con:=⟨[.ro false [.list],.ro true kJ],[⟨false,[.val],[.bool],false⟩]⟩
theorem Be:Has Tryz.prog 165 Kv nj:=fp (R:=[]) (tr:=false) (E:=[(200,0,c_au)]) (Φ:=Iu) (t:=t_ap) ⟨LG,trivial⟩ Tryz.f165 hE (by kernel_rfl)
def DZ:Con:=⟨[.ro true kD],[⟨false,[.val],[.bool],false⟩]⟩
def h_gb:How:=⟨aB [(0,⟨[kI],[(2,(.bool (.b false))),(32,(sI 0))],[],[],0⟩)],
 aB [(3,⟨[],[(2,(.bool (.b false)))],[],[],0⟩)],
 aB []⟩
theorem nL:Has Tryz.prog 111 DZ gD:=fp (R:=[]) (tr:=false) (E:=[(163,0,FC),(87,1,c_ef),(133,2,FI),(164,3,FJ),(165,4,Kv)]) (Φ:=Iv) (t:=t_gb) ⟨qR,FH,qS,qT,Be,trivial⟩ Tryz.f111 h_gb (by kernel_rfl)
def c_cd:Con:=⟨[.ro true [kI,kI,.list]],[⟨true,v3,[kI,kI,.list],false⟩]⟩
theorem FK:Has Tryz.prog 206 c_cd rx:=fp (R:=[]) (tr:=false) (E:=[(183,0,c_bo)]) (Φ:=Iw) (t:=t_cd) ⟨FF,trivial⟩ Tryz.f206 hE (by kernel_rfl)
def Kw:Con:=⟨[.ro true [.list,kI],.ro false [kI],.ro false [kI]],[⟨true,[(.arr 138 v3),.val],[.list,kI],false⟩]⟩
def h_cm:How:=⟨aB [(0,⟨[kI,.list],[(17,(sI 0))],[(2,.cells [(.sl 1000),(sI 1003)]),(1000,.arr 138 v3 (.v 1))],[],1⟩)],
 aB [],
 aB []⟩
theorem Bf:Has Tryz.prog 171 Kw nk:=fp (R:=[]) (tr:=false) (E:=[(206,0,c_cd)]) (Φ:=Ix) (t:=t_cm) ⟨FK,trivial⟩ Tryz.f171 h_cm (by kernel_rfl)
def Kx:Con:=⟨[.ro true [.list,kI]],[⟨true,[(.arr 138 v3),.val],[.list,kI],false⟩]⟩
theorem Bg:Has Tryz.prog 166 Kx np:=fp (R:=[]) (tr:=false) (E:=[(171,0,Kw)]) (Φ:=Iy) (t:=t_bw) ⟨Bf,trivial⟩ Tryz.f166 hE (by kernel_rfl)
def c_at:Con:=⟨[.ro false [.list]],[⟨false,[(.arr 97 v4)],[.list],false⟩]⟩
theorem FL:Has Tryz.prog 134 c_at ry:=fp (R:=[]) (tr:=false) (E:=[]) (Φ:=ph []) (t:=t_at) trivial Tryz.f134 hE (by kernel_rfl)
def FM:Con:=⟨[.ro true kD],[⟨true,[.val,.val,.val,(.arr 97 v4)],kD,false⟩]⟩
theorem qU:Has Tryz.prog 112 FM iL:=fp (R:=[]) (tr:=false) (E:=[(166,0,Kx),(134,1,c_at)]) (Φ:=Iz) (t:=t_bh) ⟨Bg,FL,trivial⟩ Tryz.f112 hE (by kernel_rfl)
def c_cu:Con:=⟨[.own true [.val,.val] [.list,kI] false,.ro false [.bool]],[⟨false,[.val],[.list],false⟩]⟩
theorem FN:Has Tryz.prog 88 c_cu rz:=fp (R:=[]) (tr:=false) (E:=[]) (Φ:=ph []) (t:=t_cu) trivial Tryz.f88 hE (by kernel_rfl)
def D0:Con:=⟨[.ro true kD,.ro false [.bool]],[⟨false,[.val],[.list],false⟩]⟩
theorem nM:Has Tryz.prog 44 D0 fx:=fp (R:=[]) (tr:=false) (E:=[(88,0,c_cu),(87,1,c_ef)]) (Φ:=IA) (t:=t_cb) ⟨FN,FH,trivial⟩ Tryz.f44 hE (by kernel_rfl)
def c_ft:Con:=⟨[.ro true [.list,kI],.ro true [kI,kI,.list]],[⟨true,[.val,.val],[.list,kI],false⟩,⟨false,[.val],[.bool],false⟩]⟩
theorem FO:Has Tryz.prog 169 c_ft rA:=fp (R:=[]) (tr:=false) (E:=[(163,0,FC),(113,1,FB),(166,2,Kx),(206,3,c_cd)]) (Φ:=IB) (t:=t_ft) ⟨qR,qQ,Bg,FK,trivial⟩ Tryz.f169 hE (by kernel_rfl)
def Ky:Con:=⟨[.ptr [.val,.val,.val,(.arr 97 v4)] kD,.ro true [kI,kI,.list]],[⟨false,[.val],[.bool],false⟩]⟩
theorem Bh:Has Tryz.prog 114 Ky io:=fp (R:=[]) (tr:=false) (E:=[(44,0,D0),(168,1,c_dt),(169,2,c_ft)]) (Φ:=IC) (t:=t_ch) ⟨nM,FE,FO,trivial⟩ Tryz.f114 hE (by kernel_rfl)
def c_cv:Con:=⟨[.ro true kD,.ro false [.list]],[⟨true,[.val,.val,.val,(.arr 97 v4)],kD,false⟩,⟨false,[.val],[.bool],false⟩]⟩
theorem LH:Has Tryz.prog 67 c_cv yc:=fp (R:=[]) (tr:=false) (E:=[(111,0,DZ),(112,1,FM),(44,2,D0),(113,3,FB),(114,4,Ky)]) (Φ:=ID) (t:=t_cv) ⟨nL,qU,nM,qQ,Bh,trivial⟩ Tryz.f67 hE (by kernel_rfl)
def c_df:Con:=⟨[.ro true kD,.ro false [kI]],[⟨true,[.val,.val,.val,(.arr 97 v4)],kD,false⟩,⟨false,[.val],[.bool],false⟩]⟩
theorem LI:Has Tryz.prog 68 c_df yd:=fp (R:=[]) (tr:=false) (E:=[(111,0,DZ),(90,1,Hx),(112,2,FM),(114,3,Ky)]) (Φ:=IE) (t:=t_df) ⟨nL,vC,qU,Bh,trivial⟩ Tryz.f68 hE (by kernel_rfl)
def c_de:Con:=⟨[.ro true kD,.ro false [kI],.ro false [kI],.ro false [kI]],[⟨false,[.val],[.bool],false⟩]⟩
theorem FP:Has Tryz.prog 115 c_de rB:=fp (R:=[]) (tr:=false) (E:=[(165,0,Kv)]) (Φ:=IF) (t:=t_de) ⟨Be,trivial⟩ Tryz.f115 hE (by kernel_rfl)
def Kz:Con:=⟨[.ro true kD],[⟨false,[.val],[.list],false⟩]⟩
def h_bq:How:=⟨aB [(0,⟨[kI,.list],[(4,(.sl 1000)),(23,(sI 0))],[(1000,.arr 97 v4 (.v 1))],[],1⟩),(2,⟨[kI,.list],[(4,(.sl 1000)),(38,(sI 0))],[(1000,.arr 97 v4 (.v 1))],[2],1⟩)],
 aB [],
 aB []⟩
theorem Bi:Has Tryz.prog 69 Kz lk:=fp (R:=[]) (tr:=false) (E:=[(44,0,D0),(115,1,c_de)]) (Φ:=IG) (t:=t_bq) ⟨nM,FP,trivial⟩ Tryz.f69 h_bq (by kernel_rfl)
def c_ci:Con:=⟨[.ptr [.val,.val,.val,(.arr 97 v4),(.arr 68 v5),(.arr 97 v4)] kW,.ro true kJ],[]⟩
theorem FQ:Has Tryz.prog 70 c_ci jT:=fp (R:=[]) (tr:=false) (E:=[]) (Φ:=ph []) (t:=t_ci) trivial Tryz.f70 hE (by kernel_rfl)
theorem LJ:Has Tryz.prog 116 (nT 97) sd:=Al (ρ:=⟨fun _=>116,fun t=>match t with|22=>40|23=>97|3=>3|4=>4|_=>0,fun x=>x⟩) ⟨qa,⟨Tryz.f116.name,by kernel_rfl,by kernel_rfl⟩,by kernel_rfl,by kernel_rfl,by kernel_rfl,by kernel_rfl⟩ rfl
def c_ar:Con:=nT 97
def c_cg:Con:=⟨[.ro true kD,.ro false [kI],.ro false [kI],.ro false [.list]],[⟨false,[.val],[.bool],false⟩,⟨false,[.val],[.bool],false⟩]⟩
def h_cg:How:=⟨aB [(0,⟨[.bool,.bool,kI],[(8,(.bool (.v 0))),(9,(.bool (.v 1))),(15,(sI 2))],[],[],0⟩)],
 aB [],
 aB []⟩
theorem LK:Has Tryz.prog 213 c_cg ol:=fp (R:=[]) (tr:=false) (E:=[(115,0,c_de)]) (Φ:=IH) (t:=t_cg) ⟨FP,trivial⟩ Tryz.f213 h_cg (by kernel_rfl)
def c_bp:Con:=⟨[.ptr [.val,.val,.val,(.arr 97 v4)] kD,.ro false [kI]],[]⟩
def h_bp:How:=⟨aB [],
 aB [(9,⟨[.bool],[(82,(.bool (.v 0)))],[],[],0⟩),(7,⟨[.bool],[(71,(.bool (.v 0)))],[],[],0⟩)],
 aB []⟩
theorem LM:Has Tryz.prog 182 c_bp uH:=fp (R:=[]) (tr:=false) (E:=[(44,0,D0),(213,1,c_cg),(205,2,c_fk),(114,3,Ky)]) (Φ:=GC) (t:=t_bp) ⟨nM,LK,FD,Bh,trivial⟩ Tryz.f182 h_bp (by kernel_rfl)
def KA:Con:=⟨[.ptr [.val,.val,.val,(.arr 97 v4)] kD,.ro true kJ],[]⟩
theorem Bj:Has Tryz.prog 136 KA nq:=fp (R:=[]) (tr:=false) (E:=[(133,0,FI),(164,1,FJ),(44,2,D0),(165,3,Kv),(182,4,c_bp)]) (Φ:=II) (t:=t_cl) ⟨qS,qT,nM,Be,LM,trivial⟩ Tryz.f136 hE (by kernel_rfl)
def c_do:Con:=⟨[.ro false [kI]],[⟨true,[.val,(.arr 88 [.val,.val])],[kI,.list],false⟩,⟨false,[.val],[.bool],false⟩]⟩
theorem LN:Has Tryz.prog 140 c_do yf:=fp (R:=[]) (tr:=false) (E:=[(62,0,lS)]) (Φ:=IJ) (t:=t_do) ⟨dO,trivial⟩ Tryz.f140 hE (by kernel_rfl)
def c_ee:Con:=⟨[.ro true [kI,kI]],[⟨false,[.val],[.bool],false⟩]⟩
theorem LO:Has Tryz.prog 235 c_ee yg:=fp (R:=[]) (tr:=false) (E:=[(62,0,lS)]) (Φ:=IK) (t:=t_ee) ⟨dO,trivial⟩ Tryz.f235 hE (by kernel_rfl)
def c_cx:Con:=⟨[.ro true [kI,kI]],[⟨false,[.val],[.bool],false⟩]⟩
theorem LP:Has Tryz.prog 234 c_cx yh:=fp (R:=[]) (tr:=false) (E:=[(235,0,c_ee)]) (Φ:=IL) (t:=t_cx) ⟨LO,trivial⟩ Tryz.f234 hE (by kernel_rfl)
def c_ah:Con:=⟨[.ro false [.list],.fn 234 []],[⟨false,[.val],[kI],false⟩]⟩
def h_ah:How:=⟨aB [(0,⟨[kI],[(4,(.int .i64 (.n 0))),(8,(sI 0))],[],[],0⟩)],
 aB [],
 aB []⟩
theorem LQ:Has Tryz.prog 240 c_ah yi:=fp (R:=[]) (tr:=false) (E:=[(234,0,c_cx)]) (Φ:=IM) (t:=t_ah) ⟨LP,trivial⟩ Tryz.f240 h_ah (by kernel_rfl)
def c_af:Con:=⟨[.ro false [.list],.fn 234 []],[⟨false,[.val],[.bool],false⟩]⟩
theorem LR:Has Tryz.prog 236 c_af yj:=fp (R:=[]) (tr:=false) (E:=[(240,0,c_ah)]) (Φ:=IN) (t:=t_af) ⟨LQ,trivial⟩ Tryz.f236 hE (by kernel_rfl)
def KB:Con:=⟨[.ro true [kI,.list]],[⟨false,[.val],[kI],false⟩]⟩
def h_cc:How:=⟨aB [(0,⟨[kI,kI],[(3,(sI 0)),(11,(sI 1))],[],[],0⟩)],
 aB [],
 aB []⟩
theorem Bl:Has Tryz.prog 48 KB nr:=fp (R:=[]) (tr:=false) (E:=[]) (Φ:=ph []) (t:=t_cc) trivial Tryz.f48 h_cc (by kernel_rfl)
def c_eu:Con:=⟨[.ro true [kI,.list]],[⟨false,[.val],[.bool],false⟩]⟩
theorem LS:Has Tryz.prog 219 c_eu yk:=fp (R:=[]) (tr:=false) (E:=[(62,0,lS),(236,1,c_af),(48,2,KB)]) (Φ:=IP) (t:=t_eu) ⟨dO,LR,Bl,trivial⟩ Tryz.f219 hE (by kernel_rfl)
def c_dj:Con:=⟨[.ro true [kI,.list],.ro true [kI,kI,.list]],[⟨false,[.val],[.bool],false⟩]⟩
theorem FR:Has Tryz.prog 188 c_dj rC:=fp (R:=[]) (tr:=false) (E:=[(219,0,c_eu),(113,1,FB),(48,2,KB)]) (Φ:=IQ) (t:=t_dj) ⟨LS,qQ,Bl,trivial⟩ Tryz.f188 hE (by kernel_rfl)
def c_as:Con:=⟨[.ro false [.list]],[⟨false,[(.arr 88 [.val,.val])],[.list],false⟩]⟩
theorem LU:Has Tryz.prog 189 c_as yl:=fp (R:=[]) (tr:=false) (E:=[]) (Φ:=ph []) (t:=t_as) trivial Tryz.f189 hE (by kernel_rfl)
def c_en:Con:=⟨[.ro true [kI,.list],.ro true [kI,kI,.list]],[⟨true,[.val,.val],[kI,.list],false⟩,⟨false,[.val],[.bool],false⟩]⟩
def h_en:How:=⟨aB [],
 aB [(4,⟨[.list],[(6,(.ptr 1000 0))],[(1000,.cells [(sI 1000),(.sl 1001)]),(1001,.arr 88 [.val,.val] (.v 0))],[],2⟩)],
 aB []⟩
theorem LV:Has Tryz.prog 141 c_en ym:=fp (R:=[]) (tr:=false) (E:=[(188,0,c_dj),(189,1,c_as)]) (Φ:=IR) (t:=t_en) ⟨FR,LU,trivial⟩ Tryz.f141 h_en (by kernel_rfl)
def c_ej:Con:=⟨[.ro false [kI],.ro false [.list]],[⟨true,[.val,.val],[kI,.list],false⟩,⟨false,[.val],[.bool],false⟩]⟩
def h_ej:How:=⟨aB [(0,⟨[.bool,kI,kI,.list],[(7,(.bool (.v 0))),(8,(sI 1))],[(2,.cells [(sI 2),(.view true (.v 3))])],[],0⟩)],
 aB [],
 aB []⟩
theorem FS:Has Tryz.prog 91 c_ej rD:=fp (R:=[]) (tr:=false) (E:=[(140,0,c_do),(141,1,c_en)]) (Φ:=IS) (t:=t_ej) ⟨LN,LV,trivial⟩ Tryz.f91 h_ej (by kernel_rfl)
def FT:Con:=⟨[.ro true kH],[⟨false,[.val],[.bool],false⟩]⟩
theorem qV:Has Tryz.prog 119 FT iM:=fp (R:=[]) (tr:=false) (E:=[(61,0,DY),(163,1,FC),(91,2,c_ej)]) (Φ:=IT) (t:=t_fh) ⟨nK,qR,FS,trivial⟩ Tryz.f119 hE (by kernel_rfl)
def Hy:Con:=⟨[.ro true kH],[⟨true,v5,kH,false⟩]⟩
theorem vD:Has Tryz.prog 120 Hy jU:=fp (R:=[]) (tr:=false) (E:=[(166,0,Kx)]) (Φ:=IU) (t:=t_ba) ⟨Bg,trivial⟩ Tryz.f120 hE (by kernel_rfl)
def Hz:Con:=⟨[.ro true kH,.ro false [.bool]],[⟨true,[.val,.val],[kI,.list],false⟩]⟩
theorem vE:Has Tryz.prog 47 Hz jo:=fp (R:=[]) (tr:=false) (E:=[(88,0,c_cu),(91,1,c_ej)]) (Φ:=IV) (t:=t_bi) ⟨FN,FS,trivial⟩ Tryz.f47 hE (by kernel_rfl)
def c_ax:Con:=⟨[.ro true kH,.ro true kJ],[⟨false,[.val],[kI],false⟩]⟩
def h_ax:How:=⟨aB [],
 aB [(5,⟨[.bool],[(33,(.bool (.v 0)))],[],[],0⟩),(3,⟨[.bool],[(25,(.bool (.v 0)))],[],[],0⟩)],
 aB []⟩
theorem LW:Has Tryz.prog 207 c_ax yn:=fp (R:=[]) (tr:=false) (E:=[(47,0,Hz)]) (Φ:=IW) (t:=t_ax) ⟨vE,trivial⟩ Tryz.f207 h_ax (by kernel_rfl)
def c_cy:Con:=⟨[.ro true kH,.ro true kJ],[⟨true,v5,kH,false⟩,⟨true,v4,kJ,false⟩,⟨false,[.val],[.bool],false⟩]⟩
def h_cy:How:=⟨aB [],
 aB [(9,⟨[.list],[],[(5,.cells [(sI 1005),(sI 1007),(.sl 1000)]),(1000,.arr 3 [.val] (.v 0))],[],1⟩)],
 aB []⟩
theorem FU:Has Tryz.prog 170 c_cy rE:=fp (R:=[]) (tr:=false) (E:=[(119,0,FT),(120,1,Hy),(133,2,FI),(164,3,FJ),(47,4,Hz),(188,5,c_dj),(169,6,c_ft),(207,7,c_ax)]) (Φ:=IX) (t:=t_cy) ⟨qV,vD,qS,qT,vE,FR,FO,LW,trivial⟩ Tryz.f170 h_cy (by kernel_rfl)
def c_bn:Con:=⟨[.ptr [.val,.val,.val,(.arr 97 v4),(.arr 68 v5),(.arr 97 v4)] kW,.ro true kJ],[⟨true,v4,kJ,false⟩,⟨false,[.val],[.bool],false⟩]⟩
theorem LX:Has Tryz.prog 117 c_bn uJ:=fp (R:=[]) (tr:=false) (E:=[(164,0,FJ),(136,1,KA),(170,2,c_cy)]) (Φ:=IY) (t:=t_bn) ⟨qT,Bj,FU,trivial⟩ Tryz.f117 hE (by kernel_rfl)
def c_cw:Con:=⟨[.ptr [.val,.val,.val,(.arr 97 v4),(.arr 68 v5),(.arr 97 v4)] kW,.ro true [kI,kI,kI,.list]],[]⟩
def h_cw:How:=⟨aB [],
 aB [(3,⟨kJ,[(4,(.ptr 1000 0))],[(1000,.cells [(sI 0),(sI 1),(sI 2),(sI 3)])],[],1⟩)],
 aB []⟩
theorem LY:Has Tryz.prog 71 c_cw yo:=fp (R:=[]) (tr:=false) (E:=[(62,0,lS),(70,1,c_ci),(116,2,c_ar),(117,3,c_bn)]) (Φ:=IZ) (t:=t_cw) ⟨dO,FQ,LJ,LX,trivial⟩ Tryz.f71 h_cw (by kernel_rfl)
def c_dx:Con:=⟨[.ro true [.list,kI]],[⟨true,[.val,.val],[.list,kI],false⟩]⟩
theorem FV:Has Tryz.prog 118 c_dx rF:=fp (R:=[]) (tr:=false) (E:=[(163,0,FC),(171,1,Kw)]) (Φ:=Ja) (t:=t_dx) ⟨qR,Bf,trivial⟩ Tryz.f118 hE (by kernel_rfl)
def c_dc:Con:=⟨[.ro true kD],[⟨true,[.val,.val,.val,(.arr 97 v4)],kD,false⟩]⟩
theorem LZ:Has Tryz.prog 73 c_dc yp:=fp (R:=[]) (tr:=false) (E:=[(111,0,DZ),(112,1,FM),(118,2,c_dx)]) (Φ:=Jb) (t:=t_dc) ⟨nL,qU,FV,trivial⟩ Tryz.f73 hE (by kernel_rfl)
def c_bv:Con:=⟨[.ro true kH],[⟨true,v5,kH,false⟩]⟩
theorem Ma:Has Tryz.prog 74 c_bv yq:=fp (R:=[]) (tr:=false) (E:=[(119,0,FT),(120,1,Hy),(118,2,c_dx)]) (Φ:=Jc) (t:=t_bv) ⟨qV,vD,FV,trivial⟩ Tryz.f74 hE (by kernel_rfl)
def c_ab:Con:=⟨[.ptr [.val,.val,.val,(.arr 97 v4),(.arr 68 v5),(.arr 97 v4)] kW,.ro false [kI],.fn 73 [],.fn 74 []],[]⟩
theorem FW:Has Tryz.prog 72 c_ab rG:=fp (R:=[]) (tr:=false) (E:=[(61,0,DY),(73,1,c_dc),(74,2,c_bv)]) (Φ:=Jd) (t:=t_ab) ⟨nK,LZ,Ma,trivial⟩ Tryz.f72 hE (by kernel_rfl)
def c_fe:Con:=⟨[.ro true [.list,kI],.ro false [kI]],[⟨true,[.val,.val],[.list,kI],false⟩]⟩
theorem FX:Has Tryz.prog 121 c_fe rH:=fp (R:=[]) (tr:=false) (E:=[(163,0,FC),(171,1,Kw)]) (Φ:=Jf) (t:=t_fe) ⟨qR,Bf,trivial⟩ Tryz.f121 hE (by kernel_rfl)
def c_dg:Con:=⟨[.ro true kD,.ro false [kI]],[⟨true,[.val,.val,.val,(.arr 97 v4)],kD,false⟩]⟩
theorem Mb:Has Tryz.prog 76 c_dg yr:=fp (R:=[]) (tr:=false) (E:=[(111,0,DZ),(121,1,c_fe)]) (Φ:=Jg) (t:=t_dg) ⟨nL,FX,trivial⟩ Tryz.f76 hE (by kernel_rfl)
def c_cj:Con:=⟨[.ro true kD,.rptr [kI,kI,kI,.list]],[⟨true,[.val,.val,.val,(.arr 97 v4)],kD,false⟩]⟩
theorem Mc:Has Tryz.prog 75 c_cj yt:=fp (R:=[]) (tr:=false) (E:=[(76,0,c_dg)]) (Φ:=Jh) (t:=t_cj) ⟨Mb,trivial⟩ Tryz.f75 hE (by kernel_rfl)
def c_cq:Con:=⟨[.ro true kH,.ro false [kI]],[⟨true,v5,kH,false⟩]⟩
theorem Md:Has Tryz.prog 78 c_cq yu:=fp (R:=[]) (tr:=false) (E:=[(119,0,FT),(121,1,c_fe)]) (Φ:=Ji) (t:=t_cq) ⟨qV,FX,trivial⟩ Tryz.f78 hE (by kernel_rfl)
def c_ce:Con:=⟨[.ro true kH,.rptr [kI,kI,kI,.list]],[⟨true,v5,kH,false⟩]⟩
theorem Me:Has Tryz.prog 77 c_ce yv:=fp (R:=[]) (tr:=false) (E:=[(78,0,c_cq)]) (Φ:=Jj) (t:=t_ce) ⟨Md,trivial⟩ Tryz.f77 hE (by kernel_rfl)
def c_aa:Con:=⟨[.ptr [.val,.val,.val,(.arr 97 v4),(.arr 68 v5),(.arr 97 v4)] kW,.ro false [kI],.fn 75 [[kI,kI,kI,.list]],.fn 77 [[kI,kI,kI,.list]]],[]⟩
theorem Mf:Has Tryz.prog 72 c_aa yw:=fp (R:=[]) (tr:=false) (E:=[(61,0,DY),(75,1,c_cj),(77,2,c_ce)]) (Φ:=Jk) (t:=t_aa) ⟨nK,Mc,Me,trivial⟩ Tryz.f72 hE (by kernel_rfl)
def c_dh:Con:=⟨[.ro true kD],[⟨true,[.val,.val,.val,(.arr 97 v4)],kD,false⟩]⟩
theorem Mg:Has Tryz.prog 79 c_dh yx:=fp (R:=[]) (tr:=false) (E:=[(111,0,DZ),(112,1,FM)]) (Φ:=Jm) (t:=t_dh) ⟨nL,qU,trivial⟩ Tryz.f79 hE (by kernel_rfl)
def c_cs:Con:=⟨[.ro true kH],[⟨true,v5,kH,false⟩]⟩
theorem Mh:Has Tryz.prog 80 c_cs yy:=fp (R:=[]) (tr:=false) (E:=[(119,0,FT),(120,1,Hy)]) (Φ:=Jn) (t:=t_cs) ⟨qV,vD,trivial⟩ Tryz.f80 hE (by kernel_rfl)
def c_ae:Con:=⟨[.ptr [.val,.val,.val,(.arr 97 v4),(.arr 68 v5),(.arr 97 v4)] kW,.ro false [kI],.fn 79 [],.fn 80 []],[]⟩
theorem FY:Has Tryz.prog 72 c_ae rI:=fp (R:=[]) (tr:=false) (E:=[(61,0,DY),(79,1,c_dh),(80,2,c_cs)]) (Φ:=Jo) (t:=t_ae) ⟨nK,Mg,Mh,trivial⟩ Tryz.f72 hE (by kernel_rfl)
def c_dk:Con:=⟨[.ptr [.val,.val,.val,(.arr 97 v4),(.arr 68 v5),(.arr 97 v4)] kW,.ro true [kI,kI,kI,.list]],[]⟩
def h_dk:How:=⟨aB [],
 aB [(17,⟨[.bool],[(65,(.bool (.v 0)))],[],[],0⟩)],
 aB []⟩
theorem Mi:Has Tryz.prog 40 c_dk nt:=fp (R:=[]) (tr:=false) (E:=[(67,0,c_cv),(68,1,c_df),(69,2,Kz),(62,3,lS),(70,4,c_ci),(71,5,c_cw),(72,6,c_ab),(72,7,c_aa),(72,8,c_ae)]) (Φ:=Jq) (t:=t_dk) ⟨LH,LI,Bi,dO,FQ,LY,FW,Mf,FY,trivial⟩ Tryz.f40 h_dk (by kernel_rfl)
def c_db:Con:=⟨[.ro true kJ],[⟨false,[.val],[.bool],false⟩]⟩
theorem Mj:Has Tryz.prog 132 c_db yz:=fp (R:=[]) (tr:=false) (E:=[(133,0,FI)]) (Φ:=Jr) (t:=t_db) ⟨qS,trivial⟩ Tryz.f132 hE (by kernel_rfl)
def c_aj:Con:=⟨[.ro false [.list],.fn 132 []],[⟨false,[.val],[kI],false⟩]⟩
def h_aj:How:=⟨aB [(0,⟨[kI],[(4,(.int .i64 (.n 0))),(8,(sI 0))],[],[],0⟩)],
 aB [],
 aB []⟩
theorem Mk:Has Tryz.prog 180 c_aj yA:=fp (R:=[]) (tr:=false) (E:=[(132,0,c_db)]) (Φ:=Js) (t:=t_aj) ⟨Mj,trivial⟩ Tryz.f180 h_aj (by kernel_rfl)
def c_ad:Con:=⟨[.ro false [.list],.fn 132 []],[⟨false,[.val],[.bool],false⟩]⟩
theorem Ml:Has Tryz.prog 131 c_ad yB:=fp (R:=[]) (tr:=false) (E:=[(180,0,c_aj)]) (Φ:=Jt) (t:=t_ad) ⟨Mk,trivial⟩ Tryz.f131 hE (by kernel_rfl)
def c_fc:Con:=⟨[.ro true kW],[⟨false,[.val],[.bool],false⟩]⟩
def h_fc:How:=⟨aB [(0,⟨[kI],[(2,(.bool (.b false))),(24,(sI 0))],[],[],0⟩)],
 aB [],
 aB []⟩
theorem FZ:Has Tryz.prog 83 c_fc rJ:=fp (R:=[]) (tr:=false) (E:=[(111,0,DZ),(119,1,FT),(131,2,c_ad)]) (Φ:=Ju) (t:=t_fc) ⟨nL,qV,Ml,trivial⟩ Tryz.f83 h_fc (by kernel_rfl)
def c_bf:Con:=⟨[.ro true kW],[⟨true,[.val,.val,.val,(.arr 97 v4),(.arr 68 v5),(.arr 97 v4)],kW,false⟩]⟩
def h_bf:How:=⟨aB [(0,⟨[kI,.list],[(16,(sI 0))],[(2,.cells [(.bool (.v 1006)),(.view true (.v 1007)),(sI 1008),(.sl 3),(.sl 1000),(.sl 4)]),(1000,.arr 68 v5 (.v 1))],[],1⟩)],
 aB [(2,⟨[.bool,.list,kI,.list,.list],[(3,(.ptr 1000 0))],[(1000,.cells [(.bool (.v 0)),(.view true (.v 1)),(sI 2),(.sl 1001),.nil,(.sl 1002)]),(1001,.arr 97 v4 (.v 3)),(1002,.arr 97 v4 (.v 4))],[],3⟩)],
 aB []⟩
theorem Mm:Has Tryz.prog 84 c_bf yC:=fp (R:=[]) (tr:=false) (E:=[(112,0,FM),(134,1,c_at),(120,2,Hy)]) (Φ:=Jv) (t:=t_bf) ⟨qU,FL,vD,trivial⟩ Tryz.f84 h_bf (by kernel_rfl)
theorem Mn:Has Tryz.prog 181 (gB 97) pO:=Fe (ρ:=⟨fun _=>181,fun t=>match t with|22=>40|25=>97|3=>3|4=>4|9=>9|20=>20|_=>0,fun x=>x⟩) ⟨qa,⟨Tryz.f181.name,by kernel_rfl,by kernel_rfl⟩,by kernel_rfl,by kernel_rfl,by kernel_rfl,by kernel_rfl⟩ rfl
def c_av:Con:=gB 97
def c_aq:Con:=⟨[.ro false [.list]],[⟨false,[(.arr 97 v4)],[.list],false⟩]⟩
def h_aq:How:=⟨aB [(2,⟨[kI,.list],[(6,(.sl 1000)),(27,(sI 0))],[(1000,.arr 97 v4 (.v 1))],[0],1⟩),(0,⟨[kI,kI],[(3,(sI 0)),(11,(sI 1))],[],[],0⟩)],
 aB [],
 aB []⟩
theorem Mo:Has Tryz.prog 135 c_aq yD:=fp (R:=[]) (tr:=false) (E:=[(181,0,c_av)]) (Φ:=Jw) (t:=t_aq) ⟨Mn,trivial⟩ Tryz.f135 h_aq (by kernel_rfl)
def c_az:Con:=⟨[.ptr [.val,.val,.val,(.arr 97 v4),(.arr 68 v5),.val] kW,.ro true kJ],[⟨true,v4,kJ,false⟩,⟨false,[.val],[.bool],false⟩]⟩
theorem Mp:Has Tryz.prog 117 c_az yE:=fp (R:=[]) (tr:=false) (E:=[(164,0,FJ),(136,1,KA),(170,2,c_cy)]) (Φ:=Jx) (t:=t_az) ⟨qT,Bj,FU,trivial⟩ Tryz.f117 hE (by kernel_rfl)
def c_ca:Con:=⟨[.ptr [.val,.val,.val,(.arr 97 v4),(.arr 68 v5),(.arr 97 v4)] kW],[]⟩
def h_ca:How:=⟨aB [(4,⟨[kI,.bool,.list,kI,.list,.list,.list],[(49,(sI 0))],[(0,.cells [(.bool (.v 1)),(.view true (.v 2)),(sI 3),(.sl 1000),(.sl 1001),(.sl 1002)]),(1000,.arr 97 v4 (.v 4)),(1001,.arr 68 v5 (.v 5)),(1002,.arr 97 v4 (.v 6))],[9,10],3⟩),(2,⟨[kI,.bool,.list,kI,.list,.list,.list],[(29,(sI 0))],[(0,.cells [(.bool (.v 1)),(.view true (.v 2)),(sI 3),(.sl 1000),(.sl 1001),(.view true (.v 4))]),(1000,.arr 97 v4 (.v 5)),(1001,.arr 68 v5 (.v 6))],[4,5],2⟩),(0,⟨[kI,.bool,.list,kI,.list,.list,.list],[(9,(sI 0))],[(0,.cells [(.bool (.v 1)),(.view true (.v 2)),(sI 3),(.sl 1000),(.sl 1001),(.sl 1002)]),(1000,.arr 97 v4 (.v 4)),(1001,.arr 68 v5 (.v 5)),(1002,.arr 97 v4 (.v 6))],[1,2,3],3⟩)],
 aB [],
 aB []⟩
theorem Mq:Has Tryz.prog 85 c_ca yF:=fp (R:=[]) (tr:=false) (E:=[(72,0,c_ab),(72,1,c_ae),(69,2,Kz),(135,3,c_aq),(117,4,c_az),(136,5,KA)]) (Φ:=Jy) (t:=t_ca) ⟨FW,FY,Bi,Mo,Mp,Bj,trivial⟩ Tryz.f85 h_ca (by kernel_rfl)
def c_ct:Con:=⟨[.ro true kW,.ro false [kI]],[⟨true,[.val,.val,.val,(.arr 97 v4),(.arr 68 v5),(.arr 97 v4)],kW,false⟩]⟩
def h_ct:How:=⟨aB [(0,⟨[kI,.bool,.list,kI,.list,.list,.list],[(18,(sI 0))],[(5,.cells [(.bool (.v 1)),(.view true (.v 2)),(sI 3),(.sl 1000),(.sl 1001),(.sl 1002)]),(1000,.arr 97 v4 (.v 4)),(1001,.arr 68 v5 (.v 5)),(1002,.arr 97 v4 (.v 6))],[2,3,4],3⟩)],
 aB [],
 aB []⟩
theorem Mr:Has Tryz.prog 42 c_ct uO:=fp (R:=[]) (tr:=false) (E:=[(83,0,c_fc),(62,1,lS),(84,2,c_bf),(85,3,c_ca)]) (Φ:=Jz) (t:=t_ct) ⟨FZ,dO,Mm,Mq,trivial⟩ Tryz.f42 h_ct (by kernel_rfl)
def KC:Con:=l7
theorem Bm:Has Tryz.prog 45 KC jD:=Fb EI
def c_bt:Con:=⟨[.ro true kW,.ro false [kI]],[⟨false,[.val],[.list],false⟩]⟩
def h_bt:How:=⟨aB [(0,⟨[kI,.list],[(5,(.sl 1000)),(19,(sI 0))],[(1000,.arr 88 [.val,.val] (.v 1))],[],1⟩)],
 aB [],
 aB []⟩
theorem Ms:Has Tryz.prog 46 c_bt yG:=fp (R:=[]) (tr:=false) (E:=[(83,0,c_fc),(90,1,Hx),(47,2,Hz)]) (Φ:=JA) (t:=t_bt) ⟨FZ,vC,vE,trivial⟩ Tryz.f46 h_bt (by kernel_rfl)
def c_gf:Con:=⟨[.ro false [.str],.ro false [.list]],[⟨false,[.val],[.str],false⟩]⟩
def h_gf:How:=⟨aB [(0,⟨[kI,.str],[(12,(sI 0))],[(0,.bld 50 5 (.v 1))],[],0⟩)],
 aB [],
 aB []⟩
theorem F0:Has Tryz.prog 49 c_gf jp:=fp (R:=[]) (tr:=false) (E:=[(45,0,KC)]) (Φ:=JB) (t:=t_gf) ⟨Bm,trivial⟩ Tryz.f49 h_gf (by kernel_rfl)
def c_cr:Con:=⟨[.ro true kW],[⟨false,[.val],[.str],false⟩]⟩
def h_cr:How:=⟨aB [(4,⟨[kI,.list],[(10,(.sl 1000)),(57,(sI 0))],[(1000,.arr 3 [.val] (.v 1))],[],1⟩),(0,⟨[kI,.str],[(19,(sI 0))],[(3,.bld 50 5 (.v 1))],[],0⟩),(2,⟨[kI,.str],[(40,(sI 0))],[(3,.bld 50 5 (.v 1))],[],0⟩)],
 aB [(8,⟨[.str],[],[(3,.bld 50 5 (.v 0))],[],0⟩)],
 aB []⟩
theorem F1:Has Tryz.prog 29 c_cr rK:=fp (R:=[]) (tr:=false) (E:=[(44,0,D0),(45,1,KC),(46,2,c_bt),(47,3,Hz),(48,4,KB),(49,5,c_gf)]) (Φ:=JC) (t:=t_cr) ⟨nM,Bm,Ms,vE,Bl,F0,trivial⟩ Tryz.f29 h_cr (by kernel_rfl)
def c_da:Con:=⟨[],[⟨false,[.val],[.list],false⟩]⟩
theorem Mt:Has Tryz.prog 137 c_da om:=fp (R:=[]) (tr:=false) (E:=[]) (Φ:=ph []) (t:=t_da) trivial Tryz.f137 hE (by kernel_rfl)
def c_du:Con:=⟨[.ro true kJ],[⟨false,[.val],[.str],false⟩]⟩
theorem Mu:Has Tryz.prog 86 c_du yH:=fp (R:=[]) (tr:=false) (E:=[(133,0,FI),(137,1,c_da),(49,2,c_gf)]) (Φ:=JD) (t:=t_du) ⟨qS,Mt,F0,trivial⟩ Tryz.f86 hE (by kernel_rfl)
def c_bu:Con:=⟨[.ro true kW],[⟨false,[.val],[.str],false⟩]⟩
def h_bu:How:=⟨aB [(0,⟨[kI,.str],[(12,(sI 0))],[(1,.bld 50 5 (.v 1))],[],0⟩)],
 aB [],
 aB []⟩
theorem Mv:Has Tryz.prog 43 c_bu yI:=fp (R:=[]) (tr:=false) (E:=[(69,0,Kz),(86,1,c_du),(45,2,KC)]) (Φ:=JE) (t:=t_bu) ⟨Bi,Mu,Bm,trivial⟩ Tryz.f43 h_bu (by kernel_rfl)
def c_br:Con:=⟨[.ptr [.val,.val,.val,(.arr 97 v4),(.arr 68 v5),(.arr 97 v4)] kW,.ro false [.list]],[⟨false,[.val],[.str],false⟩]⟩
theorem Mw:Has Tryz.prog 27 c_br uT:=fp (R:=[]) (tr:=false) (E:=[(41,0,c_fp),(40,1,c_dk),(42,2,c_ct),(29,3,c_cr),(43,4,c_bu)]) (Φ:=JF) (t:=t_br) ⟨Lq,Mi,Mr,F1,Mv,trivial⟩ Tryz.f27 hE (by kernel_rfl)
def sT:Con:=⟨[.ro false [.list],.ro false [.str]],[⟨false,[.val],[.str],false⟩]⟩
def h_eb:How:=⟨aB [(1,⟨[kI,.str,.bool,.list,kI,.list,.list,.list],[(31,(sI 0))],[(4,.bld 50 5 (.v 1)),(3,.cells [(.bool (.v 2)),(.view true (.v 3)),(sI 4),(.sl 1000),(.sl 1001),(.sl 1002)]),(1000,.arr 97 v4 (.v 5)),(1001,.arr 68 v5 (.v 6)),(1002,.arr 97 v4 (.v 7))],[0,1,2],3⟩)],
 aB [],
 aB []⟩
theorem gv:Has Tryz.prog 15 sT bD:=fp (R:=[]) (tr:=false) (E:=[(24,0,c_ec),(25,1,c_dn),(27,2,c_br),(29,3,c_cr)]) (Φ:=JG) (t:=t_eb) ⟨Lo,Lp,Mw,F1,trivial⟩ Tryz.f15 h_eb (by kernel_rfl)
def c_eh:Con:=⟨[],[⟨true,[.val,(.arr 138 v3),.val,(.arr 97 v4)],kD,false⟩]⟩
theorem Mx:Has Tryz.prog 50 c_eh yJ:=fp (R:=aV) (tr:=false) (E:=[]) (Φ:=ph []) (t:=t_eh) trivial Tryz.f50 hE (by kernel_rfl)
def nW:Con:=⟨[.ro false [kI],.ro false [kI],.ro false [kI]],[⟨false,[.val],[.bool],false⟩]⟩
theorem eK:Has Tryz.prog 93 nW b8:=fp (R:=aV) (tr:=false) (E:=[]) (Φ:=ph []) (t:=t_gw) trivial Tryz.f93 hE (by kernel_rfl)
def c_dl:Con:=⟨[.ro false [kI]],[⟨true,[.val,(.arr 88 [.val,.val])],[kI,.list],false⟩,⟨false,[.val],[.bool],false⟩]⟩
theorem F2:Has Tryz.prog 92 c_dl rL:=fp (R:=aV) (tr:=false) (E:=[(93,0,nW)]) (Φ:=JH) (t:=t_dl) ⟨eK,trivial⟩ Tryz.f92 hE (by kernel_rfl)
def c_ed:Con:=⟨[.ro false [kI],.ro false [kI]],[⟨true,[.val,.val,.val,(.arr 138 v3),.val],kH,false⟩,⟨false,[.val],[.bool],false⟩]⟩
theorem My:Has Tryz.prog 51 c_ed yK:=fp (R:=aV) (tr:=false) (E:=[(92,0,c_dl),(93,1,nW)]) (Φ:=JI) (t:=t_ed) ⟨F2,eK,trivial⟩ Tryz.f51 hE (by kernel_rfl)
def c_dw:Con:=⟨[.ro false [.list]],[⟨true,[.val,(.arr 138 v3),.val,(.arr 97 v4),(.arr 68 [.val,.val,.val,(.arr 138 v3),.val]),(.arr 97 v4)],kW,false⟩,⟨false,[.val],[.bool],false⟩]⟩
def h_dw:How:=⟨aB [(0,⟨[kI,.list],[(3,(.bool (.b false))),(5,(sI 0))],[(4,.cells [(.bool (.v 1001)),(.sl 1),(sI 1003),(.sl 2),(.sl 1000),(.sl 3)]),(1000,.arr 68 [.val,.val,.val,(.arr 138 v3),.val] (.v 1))],[],1⟩)],
 aB [],
 aB []⟩
theorem Mz:Has Tryz.prog 30 c_dw yL:=fp (R:=aV) (tr:=false) (E:=[(50,0,c_eh),(51,1,c_ed)]) (Φ:=JJ) (t:=t_dw) ⟨Mx,My,trivial⟩ Tryz.f30 h_dw (by kernel_rfl)
def c_gl:Con:=⟨[.ro false [.str],.ro false [(.int .u8)]],[⟨false,[(.arr 9 [.val])],[.list],false⟩]⟩
def h_gl:How:=⟨aB [(0,⟨[kI,.list],[(5,(.sl 1000)),(6,(sI 0))],[(1000,.arr 9 [.val] (.v 1))],[0],1⟩)],
 aB [],
 aB []⟩
theorem F3:Has Tryz.prog 31 c_gl nu:=fp (R:=aV) (tr:=false) (E:=[]) (Φ:=ph []) (t:=t_gl) trivial Tryz.f31 h_gl (by kernel_rfl)
def c_gs:Con:=⟨[.ro false [.str]],[⟨false,[.val],[kI],false⟩]⟩
def h_gs:How:=⟨aB [(0,⟨[kI,kI],[(2,(.int .i64 (.n 0))),(3,(sI 0)),(4,(sI 1))],[],[],0⟩)],
 aB [],
 aB []⟩
theorem MA:Has Tryz.prog 94 c_gs yM:=fp (R:=aV) (tr:=false) (E:=[(93,0,nW)]) (Φ:=JK) (t:=t_gs) ⟨eK,trivial⟩ Tryz.f94 h_gs (by kernel_rfl)
def c_gq:Con:=⟨[.ro false [.list],.ro false [kI]],[⟨false,[.val],[kI],false⟩]⟩
theorem MB:Has Tryz.prog 52 c_gq jq:=fp (R:=aV) (tr:=false) (E:=[(94,0,c_gs)]) (Φ:=JL) (t:=t_gq) ⟨MA,trivial⟩ Tryz.f52 hE (by kernel_rfl)
def c_fr:Con:=⟨[.ro false [.list]],[⟨false,[.val],[.bool],false⟩]⟩
def h_fr:How:=⟨aB [(0,⟨[kI,kI],[(2,(.bool (.b false))),(3,(sI 0)),(4,(sI 1))],[],[],0⟩)],
 aB [],
 aB []⟩
theorem MC:Has Tryz.prog 194 c_fr yN:=fp (R:=aV) (tr:=false) (E:=[(93,0,nW)]) (Φ:=JM) (t:=t_fr) ⟨eK,trivial⟩ Tryz.f194 h_fr (by kernel_rfl)
def HA:Con:=⟨[.ro true [kI,kI,.list]],[⟨false,[.val],[.bool],false⟩]⟩
theorem vF:Has Tryz.prog 148 HA jV:=fp (R:=aV) (tr:=false) (E:=[(93,0,nW),(194,1,c_fr)]) (Φ:=JN) (t:=t_gp) ⟨eK,MC,trivial⟩ Tryz.f148 hE (by kernel_rfl)
def c_fz:Con:=⟨[.ro false [.list],.ro true [kI,kI,.list]],[⟨false,[.val],[.bool],false⟩]⟩
theorem F4:Has Tryz.prog 154 c_fz rM:=fp (R:=aV) (tr:=false) (E:=[]) (Φ:=ph []) (t:=t_fz) trivial Tryz.f154 hE (by kernel_rfl)
def kT:Con:=⟨[.own false [(.arr 84 [.val,.val])] [.list] false,.ro true [kI,kI,.list]],[⟨false,[(.arr 84 [.val,.val])],[.list],false⟩]⟩
theorem od:Has Tryz.prog 155 kT dC:=fp (R:=aV) (tr:=false) (E:=[]) (Φ:=ph []) (t:=kN) trivial Tryz.f155 hE (by kernel_rfl)
def c_gm:Con:=⟨[.ro false [.list]],[⟨false,[.val],[.list],false⟩,⟨false,[.val],[.bool],false⟩]⟩
def h_gm:How:=⟨aB [(0,⟨[kI,.list],[(2,.nil),(3,(.bool (.b false))),(4,(.sl 1000)),(5,(sI 0))],[(1000,.arr 84 [.val,.val] (.v 1))],[0],1⟩)],
 aB [],
 aB []⟩
theorem F5:Has Tryz.prog 104 c_gm nw:=fp (R:=aV) (tr:=false) (E:=[(148,0,HA),(154,1,c_fz),(155,2,kT)]) (Φ:=JO) (t:=t_gm) ⟨vF,F4,od,trivial⟩ Tryz.f104 h_gm (by kernel_rfl)
def c_gu:Con:=⟨[.ro true [.list,kI]],[⟨false,[.val],[.bool],false⟩]⟩
def h_gu:How:=⟨aB [(0,⟨[kI],[(2,(.bool (.b false))),(3,(sI 0))],[],[],0⟩)],
 aB [],
 aB []⟩
theorem F6:Has Tryz.prog 190 c_gu rN:=fp (R:=aV) (tr:=false) (E:=[(148,0,HA),(93,1,nW)]) (Φ:=JP) (t:=t_gu) ⟨vF,eK,trivial⟩ Tryz.f190 h_gu (by kernel_rfl)
def F7:Con:=⟨[.ro true kJ],[⟨false,[.val],[.bool],false⟩]⟩
theorem qW:Has Tryz.prog 99 F7 iN:=fp (R:=aV) (tr:=false) (E:=[(93,0,nW)]) (Φ:=JQ) (t:=t_fy) ⟨eK,trivial⟩ Tryz.f99 hE (by kernel_rfl)
def F8:Con:=⟨[.ro false [.list],.ro true kJ],[⟨false,[.val],[.bool],false⟩]⟩
def h_ei:How:=⟨aB [(0,⟨[kI],[(4,(.bool (.b false))),(5,(sI 0))],[],[],0⟩)],
 aB [],
 aB []⟩
theorem qX:Has Tryz.prog 98 F8 iO:=fp (R:=aV) (tr:=false) (E:=[]) (Φ:=ph []) (t:=t_ei) trivial Tryz.f98 h_ei (by kernel_rfl)
def c_ge:Con:=⟨[.ro true kD],[⟨false,[.val],[.bool],false⟩]⟩
def h_ge:How:=⟨aB [(0,⟨[kI],[(2,(.bool (.b false))),(5,(sI 0))],[],[],0⟩)],
 aB [],
 aB []⟩
theorem MD:Has Tryz.prog 142 c_ge yO:=fp (R:=aV) (tr:=false) (E:=[(104,0,c_gm),(190,1,c_gu),(99,2,F7),(98,3,F8)]) (Φ:=JR) (t:=t_ge) ⟨F5,F6,qW,qX,trivial⟩ Tryz.f142 h_ge (by kernel_rfl)
def c_gd:Con:=⟨[.ro true [kI,.list]],[⟨false,[.val],[kI],false⟩]⟩
def h_gd:How:=⟨aB [(0,⟨[kI,kI],[(3,(sI 0)),(4,(sI 1))],[],[],0⟩)],
 aB [],
 aB []⟩
theorem F9:Has Tryz.prog 59 c_gd rO:=fp (R:=aV) (tr:=false) (E:=[]) (Φ:=ph []) (t:=t_gd) trivial Tryz.f59 h_gd (by kernel_rfl)
def c_gt:Con:=⟨[.ro true [kI,.list],.ro true [kI,kI,.list]],[⟨false,[.val],[.bool],false⟩]⟩
theorem Ga:Has Tryz.prog 156 c_gt rP:=fp (R:=aV) (tr:=false) (E:=[(59,0,c_gd)]) (Φ:=JS) (t:=t_gt) ⟨F9,trivial⟩ Tryz.f156 hE (by kernel_rfl)
def mS:Con:=⟨[.own true [.val,(.arr 88 [.val,.val])] [kI,.list] false,.ro true [kI,kI,.list]],[⟨true,[.val,(.arr 88 [.val,.val])],[kI,.list],false⟩]⟩
theorem qY:Has Tryz.prog 157 mS dW:=fp (R:=aV) (tr:=false) (E:=[]) (Φ:=ph []) (t:=mH) trivial Tryz.f157 hE (by kernel_rfl)
def c_gx:Con:=⟨[.ro false [kI],.ro false [.list]],[⟨true,[.val,.val],[kI,.list],false⟩,⟨false,[.val],[.bool],false⟩]⟩
def h_gx:How:=⟨aB [(0,⟨[kI,kI,.list],[(5,(.bool (.b false))),(8,(sI 0))],[(2,.cells [(sI 1),(.sl 1000)]),(1000,.arr 88 [.val,.val] (.v 2))],[1],1⟩)],
 aB [],
 aB []⟩
theorem Gb:Has Tryz.prog 106 c_gx ny:=fp (R:=aV) (tr:=false) (E:=[(92,0,c_dl),(148,1,HA),(156,2,c_gt),(157,3,mS)]) (Φ:=JT) (t:=t_gx) ⟨F2,vF,Ga,qY,trivial⟩ Tryz.f106 h_gx (by kernel_rfl)
def c_fg:Con:=⟨[.ro true kH],[⟨false,[.val],[.bool],false⟩]⟩
theorem ME:Has Tryz.prog 143 c_fg yP:=fp (R:=aV) (tr:=false) (E:=[(106,0,c_gx),(93,1,nW),(190,2,c_gu)]) (Φ:=JU) (t:=t_fg) ⟨Gb,eK,F6,trivial⟩ Tryz.f143 hE (by kernel_rfl)
def c_es:Con:=⟨[.ro true kW],[⟨false,[.val],[.bool],false⟩]⟩
def h_es:How:=⟨aB [(2,⟨[kI],[(2,(.bool (.b false))),(4,(sI 0))],[],[],0⟩),(0,⟨[kI],[(2,(.bool (.b false))),(3,(sI 0))],[],[],0⟩)],
 aB [],
 aB []⟩
theorem Gc:Has Tryz.prog 95 c_es oo:=fp (R:=aV) (tr:=false) (E:=[(142,0,c_ge),(143,1,c_fg),(99,2,F7)]) (Φ:=JV) (t:=t_es) ⟨MD,ME,qW,trivial⟩ Tryz.f95 h_es (by kernel_rfl)
def c_cz:Con:=⟨[.ro true [kI,kI,.list]],[⟨true,v3,[kI,kI,.list],false⟩]⟩
theorem MF:Has Tryz.prog 220 c_cz yQ:=fp (R:=aV) (tr:=false) (E:=[]) (Φ:=ph []) (t:=t_cz) trivial Tryz.f220 hE (by kernel_rfl)
def c_fo:Con:=⟨[.ro true [.list,kI]],[⟨true,[(.arr 138 v3),.val],[.list,kI],false⟩]⟩
def h_fo:How:=⟨aB [(0,⟨[kI,.list],[(4,(sI 0))],[(3,.cells [(.sl 1000),(sI 1001)]),(1000,.arr 138 v3 (.v 1))],[2],1⟩)],
 aB [],
 aB []⟩
theorem Ge:Has Tryz.prog 191 c_fo rQ:=fp (R:=aV) (tr:=false) (E:=[(220,0,c_cz)]) (Φ:=JW) (t:=t_fo) ⟨MF,trivial⟩ Tryz.f191 h_fo (by kernel_rfl)
def c_el:Con:=⟨[.ro true kD],[⟨true,[.val,(.arr 138 v3),.val,(.arr 97 v4)],kD,false⟩]⟩
theorem MG:Has Tryz.prog 144 c_el yR:=fp (R:=aV) (tr:=false) (E:=[(191,0,c_fo)]) (Φ:=JX) (t:=t_el) ⟨Ge,trivial⟩ Tryz.f144 hE (by kernel_rfl)
def c_ep:Con:=⟨[.ro true kH],[⟨true,[.val,.val,.val,(.arr 138 v3),.val],kH,false⟩]⟩
theorem MH:Has Tryz.prog 145 c_ep yS:=fp (R:=aV) (tr:=false) (E:=[(191,0,c_fo)]) (Φ:=JY) (t:=t_ep) ⟨Ge,trivial⟩ Tryz.f145 hE (by kernel_rfl)
def c_fa:Con:=⟨[.ro true kW],[⟨true,[.val,(.arr 138 v3),.val,(.arr 97 v4),(.arr 68 [.val,.val,.val,(.arr 138 v3),.val]),(.arr 97 v4)],kW,false⟩]⟩
def h_fa:How:=⟨aB [(0,⟨[kI,.list],[(4,(sI 0))],[(2,.cells [(.bool (.v 1006)),(.sl 3),(sI 1007),(.sl 4),(.sl 1000),(.sl 5)]),(1000,.arr 68 [.val,.val,.val,(.arr 138 v3),.val] (.v 1))],[],1⟩)],
 aB [(2,⟨[.bool,kI,.list,.list,.list],[(3,(.ptr 1000 0))],[(1000,.cells [(.bool (.v 0)),(.sl 1001),(sI 1),(.sl 1002),.nil,(.sl 1003)]),(1001,.arr 138 v3 (.v 2)),(1002,.arr 97 v4 (.v 3)),(1003,.arr 97 v4 (.v 4))],[],4⟩)],
 aB []⟩
theorem MI:Has Tryz.prog 96 c_fa yT:=fp (R:=aV) (tr:=false) (E:=[(144,0,c_el),(145,1,c_ep)]) (Φ:=JZ) (t:=t_fa) ⟨MG,MH,trivial⟩ Tryz.f96 h_fa (by kernel_rfl)
def D1:Con:=⟨[.ro true kD,.ro false [.bool]],[⟨false,[.val],[.list],false⟩]⟩
theorem nN:Has Tryz.prog 57 D1 fy:=fp (R:=aV) (tr:=false) (E:=[(104,0,c_gm)]) (Φ:=J0) (t:=t_ds) ⟨F5,trivial⟩ Tryz.f57 hE (by kernel_rfl)
def KD:Con:=⟨[.ro true kD],[⟨false,[.val],[.list],false⟩]⟩
def h_dv:How:=⟨aB [(0,⟨[kI,.list],[(3,(.sl 1000)),(5,(sI 0))],[(1000,.arr 97 v4 (.v 1))],[1],1⟩),(2,⟨[kI,.list],[(3,(.sl 1000)),(6,(sI 0))],[(1000,.arr 97 v4 (.v 1))],[2],1⟩)],
 aB [],
 aB []⟩
theorem Bn:Has Tryz.prog 54 KD jW:=fp (R:=aV) (tr:=false) (E:=[(57,0,D1),(98,1,F8)]) (Φ:=J1) (t:=t_dv) ⟨nN,qX,trivial⟩ Tryz.f54 h_dv (by kernel_rfl)
def c_ga:Con:=⟨[.ro true kD,.ro false [kI],.ro false [.list],.ro false [kI]],[⟨false,[.val],[.bool],false⟩]⟩
def h_ga:How:=⟨aB [(0,⟨[kI],[(8,(.bool (.b false))),(9,(sI 0))],[],[],0⟩)],
 aB [],
 aB []⟩
theorem MJ:Has Tryz.prog 237 c_ga yU:=fp (R:=aV) (tr:=false) (E:=[(98,0,F8)]) (Φ:=J2) (t:=t_ga) ⟨qX,trivial⟩ Tryz.f237 h_ga (by kernel_rfl)
def c_fv:Con:=⟨[.ro true kD,.ro false [kI],.ro false [.list],.ro false [kI]],[⟨false,[.val],[.bool],false⟩]⟩
def h_fv:How:=⟨aB [(0,⟨[kI],[(8,(.bool (.b false))),(9,(sI 0))],[],[],0⟩)],
 aB [],
 aB []⟩
theorem MK:Has Tryz.prog 238 c_fv nA:=fp (R:=aV) (tr:=false) (E:=[(98,0,F8)]) (Φ:=J3) (t:=t_fv) ⟨qX,trivial⟩ Tryz.f238 h_fv (by kernel_rfl)
def c_gk:Con:=⟨[.own true [(.arr 138 v3),.val] [.list,kI] false,.own true v3 [kI,kI,.list] false],[⟨true,[(.arr 138 v3),.val],[.list,kI],false⟩,⟨false,[.val],[.bool],false⟩]⟩
theorem Gf:Has Tryz.prog 195 c_gk rR:=fp (R:=aV) (tr:=false) (E:=[]) (Φ:=ph []) (t:=t_gk) trivial Tryz.f195 hE (by kernel_rfl)
def c_dy:Con:=⟨[.own true [.val,(.arr 138 v3),.val,(.arr 97 v4)] kD false,.own true v3 [kI,kI,.list] false],[⟨true,[.val,(.arr 138 v3),.val,(.arr 97 v4)],kD,false⟩,⟨false,[.val],[.bool],false⟩]⟩
theorem Gg:Has Tryz.prog 149 c_dy ej:=fp (R:=aV) (tr:=false) (E:=[(57,0,D1),(154,1,c_fz),(195,2,c_gk)]) (Φ:=J4) (t:=t_dy) ⟨nN,F4,Gf,trivial⟩ Tryz.f149 hE (by kernel_rfl)
def c_cn:Con:=⟨[.own true [.val,(.arr 138 v3),.val,(.arr 97 v4)] kD false,.ro false [kI]],[⟨true,[.val,(.arr 138 v3),.val,(.arr 97 v4)],kD,false⟩]⟩
def h_cn:How:=⟨aB [],
 aB [(9,⟨[.bool],[(47,(.bool (.v 0)))],[],[],0⟩),(7,⟨[.bool],[(36,(.bool (.v 0)))],[],[],0⟩),(5,⟨[.bool],[(8,(.bool (.v 0)))],[],[],0⟩)],
 aB []⟩
theorem ML:Has Tryz.prog 221 c_cn vc:=fp (R:=aV) (tr:=false) (E:=[(57,0,D1),(237,1,c_ga),(238,2,c_fv),(149,3,c_dy)]) (Φ:=J5) (t:=t_cn) ⟨nN,MJ,MK,Gg,trivial⟩ Tryz.f221 h_cn (by kernel_rfl)
def c_fl:Con:=⟨[.own true [.val,(.arr 138 v3),.val,(.arr 97 v4)] kD false,.ro true kJ],[⟨true,[.val,(.arr 138 v3),.val,(.arr 97 v4)],kD,false⟩]⟩
theorem MM:Has Tryz.prog 192 c_fl yV:=fp (R:=aV) (tr:=false) (E:=[(99,0,F7),(57,1,D1),(98,2,F8),(221,3,c_cn)]) (Φ:=J6) (t:=t_fl) ⟨qW,nN,qX,ML,trivial⟩ Tryz.f192 hE (by kernel_rfl)
def KE:Con:=⟨[.ro true kH,.ro false [.bool]],[⟨true,[.val,.val],[kI,.list],false⟩]⟩
theorem Bo:Has Tryz.prog 60 KE jX:=fp (R:=aV) (tr:=false) (E:=[(106,0,c_gx)]) (Φ:=J7) (t:=t_dz) ⟨Gb,trivial⟩ Tryz.f60 hE (by kernel_rfl)
def c_gi:Con:=⟨[.ro true kJ],[⟨true,v3,[kI,kI,.list],false⟩]⟩
theorem MN:Has Tryz.prog 222 c_gi yW:=fp (R:=aV) (tr:=false) (E:=[]) (Φ:=ph []) (t:=t_gi) trivial Tryz.f222 hE (by kernel_rfl)
def c_dd:Con:=⟨[.ro true kH,.ro true kJ,.ro false [kI]],[⟨true,v4,kJ,false⟩,⟨false,[.val],[.bool],false⟩]⟩
def h_dd:How:=⟨aB [],
 aB [(6,⟨[.bool],[(28,(.bool (.v 0)))],[],[],0⟩),(4,⟨[.bool],[(15,(.bool (.v 0)))],[],[],0⟩)],
 aB []⟩
theorem MO:Has Tryz.prog 223 c_dd vd:=fp (R:=aV) (tr:=false) (E:=[]) (Φ:=ph []) (t:=t_dd) trivial Tryz.f223 h_dd (by kernel_rfl)
def c_ex:Con:=⟨[.own true [.val,.val,.val,(.arr 138 v3),.val] kH false,.ro true kJ],[⟨true,[.val,.val,.val,(.arr 138 v3),.val],kH,false⟩,⟨true,v4,kJ,false⟩,⟨false,[.val],[.bool],false⟩]⟩
theorem MP:Has Tryz.prog 193 c_ex yX:=fp (R:=aV) (tr:=false) (E:=[(99,0,F7),(60,1,KE),(222,2,c_gi),(156,3,c_gt),(195,4,c_gk),(223,5,c_dd)]) (Φ:=J8) (t:=t_ex) ⟨qW,Bo,MN,Ga,Gf,MO,trivial⟩ Tryz.f193 hE (by kernel_rfl)
def c_fm:Con:=⟨[.own true [.val,(.arr 138 v3),.val,(.arr 97 v4),(.arr 68 [.val,.val,.val,(.arr 138 v3),.val]),(.arr 97 v4)] kW false,.ro true kJ],[⟨true,[.val,(.arr 138 v3),.val,(.arr 97 v4),(.arr 68 [.val,.val,.val,(.arr 138 v3),.val]),(.arr 97 v4)],kW,false⟩,⟨true,v4,kJ,false⟩,⟨false,[.val],[.bool],false⟩]⟩
theorem Gh:Has Tryz.prog 146 c_fm oq:=fp (R:=aV) (tr:=false) (E:=[(192,0,c_fl),(193,1,c_ex)]) (Φ:=J9) (t:=t_fm) ⟨MM,MP,trivial⟩ Tryz.f146 hE (by kernel_rfl)
def c_dr:Con:=⟨[.own true [.val,(.arr 138 v3),.val,(.arr 97 v4),(.arr 68 [.val,.val,.val,(.arr 138 v3),.val]),(.arr 97 v4)] kW false,.ro false [kI]],[⟨true,[.val,(.arr 138 v3),.val,(.arr 97 v4),(.arr 68 [.val,.val,.val,(.arr 138 v3),.val]),(.arr 97 v4)],kW,false⟩]⟩
def h_dr:How:=⟨aB [],
 aB [(3,⟨[kI],[],[(4,.cells [(.bool (.v 1000)),(.sl 0),(sI 0),(.sl 1),(.sl 2),(.sl 3)])],[],0⟩)],
 aB []⟩
theorem Gi:Has Tryz.prog 147 c_dr rS:=fp (R:=aV) (tr:=false) (E:=[(93,0,nW)]) (Φ:=Ka) (t:=t_dr) ⟨eK,trivial⟩ Tryz.f147 h_dr (by kernel_rfl)
def c_fj:Con:=⟨[.own true [.val,(.arr 138 v3),.val,(.arr 97 v4),(.arr 68 [.val,.val,.val,(.arr 138 v3),.val]),(.arr 97 v4)] kW false],[⟨true,[.val,(.arr 138 v3),.val,(.arr 97 v4),(.arr 68 [.val,.val,.val,(.arr 138 v3),.val]),(.arr 97 v4)],kW,false⟩]⟩
def h_fj:How:=⟨aB [(4,⟨[kI,.bool,kI,.list,.list,.list,.list],[(12,(sI 0))],[(4,.cells [(.bool (.v 1)),(.sl 1000),(sI 2),(.sl 1001),(.sl 1002),(.sl 1003)]),(1000,.arr 138 v3 (.v 3)),(1001,.arr 97 v4 (.v 4)),(1002,.arr 68 [.val,.val,.val,(.arr 138 v3),.val] (.v 5)),(1003,.arr 97 v4 (.v 6))],[10,11,12,13],4⟩),(2,⟨[kI,.bool,kI,.list,.list,.list,.list],[(5,(sI 0))],[(4,.cells [(.bool (.v 1)),(.sl 1000),(sI 2),(.sl 1001),(.sl 1002),(.sl 1003)]),(1000,.arr 138 v3 (.v 3)),(1001,.arr 97 v4 (.v 4)),(1002,.arr 68 [.val,.val,.val,(.arr 138 v3),.val] (.v 5)),(1003,.arr 97 v4 (.v 6))],[9,2,0,1],4⟩),(0,⟨[kI,.list],[(3,(sI 0))],[(2,.arr 68 [.val,.val,.val,(.arr 138 v3),.val] (.v 1))],[],0⟩)],
 aB [],
 aB []⟩
theorem MQ:Has Tryz.prog 97 c_fj yY:=fp (R:=aV) (tr:=false) (E:=[(54,0,KD),(146,1,c_fm),(147,2,c_dr)]) (Φ:=Kb) (t:=t_fj) ⟨Bn,Gh,Gi,trivial⟩ Tryz.f97 h_fj (by kernel_rfl)
def c_co:Con:=⟨[.ro true kW,.ro false [kI]],[⟨true,[.val,(.arr 138 v3),.val,(.arr 97 v4),(.arr 68 [.val,.val,.val,(.arr 138 v3),.val]),(.arr 97 v4)],kW,false⟩]⟩
def h_co:How:=⟨aB [(0,⟨[kI,.bool,kI,.list,.list,.list,.list],[(6,(sI 0))],[(6,.cells [(.bool (.v 1)),(.sl 1000),(sI 2),(.sl 1001),(.sl 1002),(.sl 1003)]),(1000,.arr 138 v3 (.v 3)),(1001,.arr 97 v4 (.v 4)),(1002,.arr 68 [.val,.val,.val,(.arr 138 v3),.val] (.v 5)),(1003,.arr 97 v4 (.v 6))],[2,3,4,5],4⟩)],
 aB [],
 aB []⟩
theorem MS:Has Tryz.prog 53 c_co vg:=fp (R:=aV) (tr:=false) (E:=[(95,0,c_es),(93,1,nW),(96,2,c_fa),(97,3,c_fj)]) (Φ:=Kc) (t:=t_co) ⟨Gc,eK,MI,MQ,trivial⟩ Tryz.f53 h_co (by kernel_rfl)
def c_bx:Con:=⟨[.ro true kW,.ro false [kI]],[⟨false,[.val],[.list],false⟩]⟩
def h_bx:How:=⟨aB [(0,⟨[kI,.list],[(5,(.sl 1000)),(6,(sI 0))],[(1000,.arr 88 [.val,.val] (.v 1))],[1],1⟩)],
 aB [],
 aB []⟩
theorem MT:Has Tryz.prog 105 c_bx yZ:=fp (R:=aV) (tr:=false) (E:=[(95,0,c_es),(93,1,nW),(60,2,KE)]) (Φ:=Kd) (t:=t_bx) ⟨Gc,eK,Bo,trivial⟩ Tryz.f105 h_bx (by kernel_rfl)
def c_ew:Con:=⟨[.ro true kW,.ro false [kI],.ro true [.list,kI]],[⟨false,[.val],[.str],false⟩]⟩
def h_ew:How:=⟨aB [(0,⟨[.str,kI],[(7,(.str (.v 0))),(9,(sI 1))],[],[],0⟩)],
 aB [(2,⟨[.str],[(7,(.str (.v 0)))],[],[],0⟩)],
 aB []⟩
theorem MU:Has Tryz.prog 58 c_ew y0:=fp (R:=aV) (tr:=false) (E:=[(34,0,BT),(105,1,c_bx)]) (Φ:=Ke) (t:=t_ew) ⟨qP,MT,trivial⟩ Tryz.f58 h_ew (by kernel_rfl)
def c_fu:Con:=⟨[.ro true kW],[⟨false,[.val],[.str],false⟩]⟩
def h_fu:How:=⟨aB [(2,⟨[.str,kI],[(3,(.str (.v 0))),(6,(sI 1))],[],[],0⟩),(0,⟨[.str,kI],[(3,(.str (.v 0))),(5,(sI 1))],[],[],0⟩)],
 aB [],
 aB []⟩
theorem Gj:Has Tryz.prog 33 c_fu rT:=fp (R:=aV) (tr:=false) (E:=[(57,0,D1),(58,1,c_ew),(60,2,KE),(59,3,c_gd),(34,4,BT)]) (Φ:=Kf) (t:=t_fu) ⟨nN,MU,Bo,F9,qP,trivial⟩ Tryz.f33 h_fu (by kernel_rfl)
def c_et:Con:=⟨[],[⟨false,[.val],[.list],false⟩]⟩
theorem MV:Has Tryz.prog 100 c_et y1:=fp (R:=aV) (tr:=false) (E:=[]) (Φ:=ph []) (t:=t_et) trivial Tryz.f100 hE (by kernel_rfl)
def c_ea:Con:=⟨[.ro true kJ],[⟨false,[.val],[.str],false⟩]⟩
theorem MW:Has Tryz.prog 55 c_ea y2:=fp (R:=aV) (tr:=false) (E:=[(99,0,F7),(100,1,c_et),(34,2,BT)]) (Φ:=Kg) (t:=t_ea) ⟨qW,MV,qP,trivial⟩ Tryz.f55 hE (by kernel_rfl)
def c_fs:Con:=⟨[.own true [.val,(.arr 138 v3),.val,(.arr 97 v4),(.arr 68 [.val,.val,.val,(.arr 138 v3),.val]),(.arr 97 v4)] kW false,.ro true kJ],[⟨true,[.val,(.arr 138 v3),.val,(.arr 97 v4),(.arr 68 [.val,.val,.val,(.arr 138 v3),.val]),(.arr 97 v4)],kW,false⟩]⟩
theorem Gk:Has Tryz.prog 150 c_fs ot:=fp (R:=aV) (tr:=false) (E:=[]) (Φ:=ph []) (t:=t_fs) trivial Tryz.f150 hE (by kernel_rfl)
def c_er:Con:=⟨[.own true [.val,(.arr 138 v3),.val,(.arr 97 v4),(.arr 68 [.val,.val,.val,(.arr 138 v3),.val]),(.arr 97 v4)] kW false,.ro true [kI,kI,kI,.list]],[⟨true,[.val,(.arr 138 v3),.val,(.arr 97 v4),(.arr 68 [.val,.val,.val,(.arr 138 v3),.val]),(.arr 97 v4)],kW,false⟩]⟩
theorem MX:Has Tryz.prog 101 c_er y3:=fp (R:=aV) (tr:=false) (E:=[(57,0,D1),(148,1,HA),(149,2,c_dy),(93,3,nW),(54,4,KD),(150,5,c_fs)]) (Φ:=Kh) (t:=t_er) ⟨nN,vF,Gg,eK,Bn,Gk,trivial⟩ Tryz.f101 hE (by kernel_rfl)
def c_eg:Con:=⟨[.own true [.val,(.arr 138 v3),.val,(.arr 97 v4),(.arr 68 [.val,.val,.val,(.arr 138 v3),.val]),(.arr 97 v4)] kW false,.ro false [kI]],[⟨true,[.val,(.arr 138 v3),.val,(.arr 97 v4),(.arr 68 [.val,.val,.val,(.arr 138 v3),.val]),(.arr 97 v4)],kW,false⟩]⟩
theorem MY:Has Tryz.prog 151 c_eg vk:=fp (R:=aV) (tr:=false) (E:=[]) (Φ:=ph []) (t:=t_eg) trivial Tryz.f151 hE (by kernel_rfl)
def c_fw:Con:=⟨[.own true [.val,(.arr 138 v3),.val,(.arr 97 v4),(.arr 68 [.val,.val,.val,(.arr 138 v3),.val]),(.arr 97 v4)] kW false,.ro true [kI,kI,kI,.list]],[⟨true,[.val,(.arr 138 v3),.val,(.arr 97 v4),(.arr 68 [.val,.val,.val,(.arr 138 v3),.val]),(.arr 97 v4)],kW,false⟩]⟩
theorem MZ:Has Tryz.prog 102 c_fw rU:=fp (R:=aV) (tr:=false) (E:=[(93,0,nW),(151,1,c_eg),(150,2,c_fs),(146,3,c_fm)]) (Φ:=Ki) (t:=t_fw) ⟨eK,MY,Gk,Gh,trivial⟩ Tryz.f102 hE (by kernel_rfl)
def c_fq:Con:=⟨[.own true [(.arr 138 v3),.val] [.list,kI] false,.ro false [kI]],[⟨true,[(.arr 138 v3),.val],[.list,kI],false⟩]⟩
theorem Gl:Has Tryz.prog 153 c_fq rV:=fp (R:=aV) (tr:=true) (E:=[]) (Φ:=ph []) (t:=t_fq) trivial Tryz.f153 hE (by kernel_rfl)
def c_eo:Con:=⟨[.own true [.val,(.arr 138 v3),.val,(.arr 97 v4)] kD false,.ro false [kI]],[⟨true,[.val,(.arr 138 v3),.val,(.arr 97 v4)],kD,false⟩]⟩
theorem M5:Has Tryz.prog 152 c_eo y4:=fp (R:=aV) (tr:=false) (E:=[(153,0,c_fq)]) (Φ:=Kj) (t:=t_eo) ⟨Gl,trivial⟩ Tryz.f152 hE (by kernel_rfl)
def c_eq:Con:=⟨[.own true [.val,(.arr 138 v3),.val,(.arr 97 v4),(.arr 68 [.val,.val,.val,(.arr 138 v3),.val]),(.arr 97 v4)] kW false,.ro true [kI,kI,kI,.list]],[⟨true,[.val,(.arr 138 v3),.val,(.arr 97 v4),(.arr 68 [.val,.val,.val,(.arr 138 v3),.val]),(.arr 97 v4)],kW,false⟩]⟩
theorem M6:Has Tryz.prog 103 c_eq rW:=fp (R:=aV) (tr:=false) (E:=[(93,0,nW),(147,1,c_dr),(152,2,c_eo),(153,3,c_fq)]) (Φ:=Kk) (t:=t_eq) ⟨eK,Gi,M5,Gl,trivial⟩ Tryz.f103 hE (by kernel_rfl)
def c_gv:Con:=⟨[.own true [.val,(.arr 138 v3),.val,(.arr 97 v4),(.arr 68 [.val,.val,.val,(.arr 138 v3),.val]),(.arr 97 v4)] kW false,.ro true [kI,kI,kI,.list]],[⟨true,[.val,(.arr 138 v3),.val,(.arr 97 v4),(.arr 68 [.val,.val,.val,(.arr 138 v3),.val]),(.arr 97 v4)],kW,false⟩]⟩
def h_gv:How:=⟨aB [],
 aB [(5,⟨[.bool],[(7,(.bool (.v 0)))],[],[],0⟩)],
 aB []⟩
theorem M7:Has Tryz.prog 56 c_gv ip:=fp (R:=aV) (tr:=false) (E:=[(101,0,c_er),(102,1,c_fw),(103,2,c_eq)]) (Φ:=Kl) (t:=t_gv) ⟨MX,MZ,M6,trivial⟩ Tryz.f56 h_gv (by kernel_rfl)
def c_ev:Con:=⟨[.own true [.val,(.arr 138 v3),.val,(.arr 97 v4),(.arr 68 [.val,.val,.val,(.arr 138 v3),.val]),(.arr 97 v4)] kW false,.ro false [.str]],[⟨true,[.val,(.arr 138 v3),.val,(.arr 97 v4),(.arr 68 [.val,.val,.val,(.arr 138 v3),.val]),(.arr 97 v4)],kW,false⟩,⟨false,[.val],[.str],false⟩]⟩
def h_ev:How:=⟨aB [(1,⟨[.str,kI],[(8,(.str (.v 0))),(10,(sI 1))],[],[],0⟩)],
 aB [],
 aB []⟩
theorem M8:Has Tryz.prog 32 c_ev vl:=fp (R:=aV) (tr:=false) (E:=[(31,0,c_gl),(52,1,c_gq),(53,2,c_co),(33,3,c_fu),(54,4,KD),(55,5,c_ea),(34,6,BT),(56,7,c_gv)]) (Φ:=Km) (t:=t_ev) ⟨F3,MB,MS,Gj,Bn,MW,qP,M7,trivial⟩ Tryz.f32 h_ev (by kernel_rfl)
def sU:Con:=⟨[.ro false [.list],.ro false [.str]],[⟨false,[.val],[.str],false⟩]⟩
def h_dm:How:=⟨aB [(0,⟨[.str,kI,.bool,kI,.list,.list,.list,.list],[(7,(.str (.v 0))),(9,(sI 1))],[(4,.cells [(.bool (.v 2)),(.sl 1000),(sI 3),(.sl 1001),(.sl 1002),(.sl 1003)]),(1000,.arr 138 v3 (.v 4)),(1001,.arr 97 v4 (.v 5)),(1002,.arr 68 [.val,.val,.val,(.arr 138 v3),.val] (.v 6)),(1003,.arr 97 v4 (.v 7))],[0,1,2,3],4⟩)],
 aB [],
 aB []⟩
theorem gw:Has Tryz.prog 16 sU eZ:=fp (R:=aV) (tr:=false) (E:=[(30,0,c_dw),(31,1,c_gl),(32,2,c_ev),(33,3,c_fu)]) (Φ:=Kn) (t:=t_dm) ⟨Mz,F3,M8,Gj,trivial⟩ Tryz.f16 h_dm (by kernel_rfl)
def c_fx:Con:=⟨[.ro false [.list]],[⟨false,[.val],[.list],false⟩]⟩
def h_fx:How:=⟨aB [(0,⟨[kI,.list],[(4,(sI 0))],[(0,.arr 3 [.val] (.v 1))],[],0⟩)],
 aB [],
 aB []⟩
theorem M9:Has Tryz.prog 17 c_fx y5:=fp (R:=[]) (tr:=false) (E:=[]) (Φ:=ph []) (t:=t_fx) trivial Tryz.f17 h_fx (by kernel_rfl)
def c_gc:Con:=⟨[.ro false [.list],.ro false [.list]],[⟨false,[.val],[.bool],false⟩]⟩
def h_gc:How:=⟨aB [(0,⟨[kI],[(4,(.bool (.b false))),(5,(sI 0))],[],[],0⟩)],
 aB [],
 aB []⟩
theorem Na:Has Tryz.prog 18 c_gc y6:=fp (R:=[]) (tr:=false) (E:=[]) (Φ:=ph []) (t:=t_gc) trivial Tryz.f18 h_gc (by kernel_rfl)
end Dx
