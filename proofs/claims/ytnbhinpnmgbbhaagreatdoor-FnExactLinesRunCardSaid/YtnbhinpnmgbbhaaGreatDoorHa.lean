import Derived.Test.YtnbhinpnmgbbhaaGreatDoorProg
import Derived.Test.YtnbhinpnmgbbhaaGreatDoorXe
import Derived.Test.YtnbhinpnmgbbhaaGreatDoorYb
import Derived.Shelf.Lays
import Derived.Shelf.Strings.BuilderX
set_option linter.all false
namespace Dx
open Go Go.Proofs Go.Shelf
def liR:Ren:=⟨fun|119=>229|120=>209|129=>215|137=>228|138=>64|143=>65|146=>25|151=>173|152=>208|160=>81|166=>26|169=>28|171=>45|172=>82|195=>107|197=>108|205=>212|217=>159|218=>109|219=>110|221=>38|224=>161|225=>160|227=>124|228=>172|231=>122|232=>123|233=>125|234=>126|235=>127|236=>128|240=>39|243=>89|244=>129|245=>130|246=>139|247=>175|260=>158|266=>196|267=>162|268=>63|271=>174|276=>66|279=>176|280=>177|281=>178|282=>179|283=>184|284=>185|285=>186|286=>187|287=>210|314=>197|316=>211|317=>214|318=>216|319=>217|320=>218|321=>230|322=>231|337=>232|338=>233|n=>n,fun|0=>0|2=>2|3=>3|4=>4|5=>5|9=>9|20=>20|21=>21|31=>51|37=>22|46=>172|51=>209|53=>197|70=>48|72=>50|75=>54|76=>55|80=>58|85=>186|105=>133|116=>152|117=>153|119=>205|124=>156|127=>80|138=>207|139=>208|143=>243|145=>245|146=>210|164=>107|167=>185|168=>188|171=>196|173=>200|175=>220|210=>224|212=>229|213=>230|232=>251|233=>252|n=>n,fun|1=>0|3=>1|4=>2|15=>3|16=>4|17=>5|18=>6|19=>7|n=>n⟩
theorem Ds:Lays.n146 Tryz.prog liR:={
 mixed:=by kernel_rfl,
 f138:=Tryz.func64.trans (congrArg some (by kernel_rfl)),
 f143:=Tryz.func65.trans (congrArg some (by kernel_rfl)),
 f146:=Tryz.func25.trans (congrArg some (by kernel_rfl)),
 f195:=Tryz.func107.trans (congrArg some (by kernel_rfl)),
 f197:=Tryz.func108.trans (congrArg some (by kernel_rfl)),
 f217:=Tryz.func159.trans (congrArg some (by kernel_rfl)),
 f218:=Tryz.func109.trans (congrArg some (by kernel_rfl)),
 f219:=Tryz.func110.trans (congrArg some (by kernel_rfl)),
 f221:=Tryz.func38.trans (congrArg some (by kernel_rfl)),
 f224:=Tryz.func161.trans (congrArg some (by kernel_rfl)),
 f225:=Tryz.func160.trans (congrArg some (by kernel_rfl)),
 f260:=Tryz.func158.trans (congrArg some (by kernel_rfl)),
 f266:=Tryz.func196.trans (congrArg some (by kernel_rfl)),
 f267:=Tryz.func162.trans (congrArg some (by kernel_rfl)),
 f268:=Tryz.func63.trans (congrArg some (by kernel_rfl)),
 f314:=Tryz.func197.trans (congrArg some (by kernel_rfl)),
 t0:=Tryz.underlying0,
 a0:=Tryz.isAgg0,
 z0:=Tryz.sizeOf0,
 v0:=Tryz.zeroValue0,
 t3:=Tryz.underlying3,
 a3:=Tryz.isAgg3,
 z3:=Tryz.sizeOf3,
 v3:=Tryz.zeroValue3,
 t4:=Tryz.underlying4,
 a4:=Tryz.isAgg4,
 z4:=Tryz.sizeOf4,
 v4:=Tryz.zeroValue4,
 t5:=Tryz.underlying5,
 a5:=Tryz.isAgg5,
 z5:=Tryz.sizeOf5,
 v5:=Tryz.zeroValue5,
 t9:=Tryz.underlying9,
 a9:=Tryz.isAgg9,
 z9:=Tryz.sizeOf9,
 v9:=Tryz.zeroValue9,
 t21:=Tryz.underlying21,
 a21:=Tryz.isAgg21,
 z21:=Tryz.sizeOf21,
 v21:=Tryz.zeroValue21,
 t31:=Tryz.underlying51,
 a31:=Tryz.isAgg51,
 z31:=Tryz.sizeOf51,
 v31:=Tryz.zeroValue51,
 t46:=Tryz.underlying172,
 a46:=Tryz.isAgg172,
 z46:=Tryz.sizeOf172,
 v46:=Tryz.zeroValue172,
 t51:=Tryz.underlying209,
 a51:=Tryz.isAgg209,
 z51:=Tryz.sizeOf209,
 v51:=Tryz.zeroValue209,
 t105:=Tryz.underlying133,
 a105:=Tryz.isAgg133,
 z105:=Tryz.sizeOf133,
 v105:=Tryz.zeroValue133,
 t119:=Tryz.underlying205,
 a119:=Tryz.isAgg205,
 z119:=Tryz.sizeOf205,
 t138:=Tryz.underlying207,
 a138:=Tryz.isAgg207,
 z138:=Tryz.sizeOf207,
 v138:=Tryz.zeroValue207,
 t139:=Tryz.underlying208,
 a139:=Tryz.isAgg208,
 z139:=Tryz.sizeOf208,
 v139:=Tryz.zeroValue208,
 t146:=Tryz.underlying210,
 a146:=Tryz.isAgg210,
 z146:=Tryz.sizeOf210,
 v146:=Tryz.zeroValue210,
 g1:=by kernel_rfl,
 g3:=by kernel_rfl,
 g4:=by kernel_rfl}
theorem EJ:Lays.n160 Tryz.prog liR:={
 mixed:=by kernel_rfl,
 f119:=Tryz.func229.trans (congrArg some (by kernel_rfl)),
 f120:=Tryz.func209.trans (congrArg some (by kernel_rfl)),
 f137:=Tryz.func228.trans (congrArg some (by kernel_rfl)),
 f151:=Tryz.func173.trans (congrArg some (by kernel_rfl)),
 f152:=Tryz.func208.trans (congrArg some (by kernel_rfl)),
 f160:=Tryz.func81.trans (congrArg some (by kernel_rfl)),
 f197:=Tryz.func108.trans (congrArg some (by kernel_rfl)),
 f217:=Tryz.func159.trans (congrArg some (by kernel_rfl)),
 f224:=Tryz.func161.trans (congrArg some (by kernel_rfl)),
 f225:=Tryz.func160.trans (congrArg some (by kernel_rfl)),
 f227:=Tryz.func124.trans (congrArg some (by kernel_rfl)),
 f228:=Tryz.func172.trans (congrArg some (by kernel_rfl)),
 f231:=Tryz.func122.trans (congrArg some (by kernel_rfl)),
 f232:=Tryz.func123.trans (congrArg some (by kernel_rfl)),
 f233:=Tryz.func125.trans (congrArg some (by kernel_rfl)),
 f234:=Tryz.func126.trans (congrArg some (by kernel_rfl)),
 f235:=Tryz.func127.trans (congrArg some (by kernel_rfl)),
 f236:=Tryz.func128.trans (congrArg some (by kernel_rfl)),
 f260:=Tryz.func158.trans (congrArg some (by kernel_rfl)),
 f266:=Tryz.func196.trans (congrArg some (by kernel_rfl)),
 f271:=Tryz.func174.trans (congrArg some (by kernel_rfl)),
 t0:=Tryz.underlying0,
 a0:=Tryz.isAgg0,
 z0:=Tryz.sizeOf0,
 v0:=Tryz.zeroValue0,
 t3:=Tryz.underlying3,
 a3:=Tryz.isAgg3,
 z3:=Tryz.sizeOf3,
 v3:=Tryz.zeroValue3,
 t4:=Tryz.underlying4,
 a4:=Tryz.isAgg4,
 z4:=Tryz.sizeOf4,
 v4:=Tryz.zeroValue4,
 t5:=Tryz.underlying5,
 a5:=Tryz.isAgg5,
 z5:=Tryz.sizeOf5,
 v5:=Tryz.zeroValue5,
 t9:=Tryz.underlying9,
 a9:=Tryz.isAgg9,
 z9:=Tryz.sizeOf9,
 v9:=Tryz.zeroValue9,
 t21:=Tryz.underlying21,
 a21:=Tryz.isAgg21,
 z21:=Tryz.sizeOf21,
 v21:=Tryz.zeroValue21,
 t46:=Tryz.underlying172,
 a46:=Tryz.isAgg172,
 z46:=Tryz.sizeOf172,
 v46:=Tryz.zeroValue172,
 t105:=Tryz.underlying133,
 a105:=Tryz.isAgg133,
 z105:=Tryz.sizeOf133,
 v105:=Tryz.zeroValue133,
 t116:=Tryz.underlying152,
 a116:=Tryz.isAgg152,
 z116:=Tryz.sizeOf152,
 t117:=Tryz.underlying153,
 a117:=Tryz.isAgg153,
 z117:=Tryz.sizeOf153,
 v117:=Tryz.zeroValue153,
 t119:=Tryz.underlying205,
 a119:=Tryz.isAgg205,
 z119:=Tryz.sizeOf205,
 t124:=Tryz.underlying156,
 a124:=Tryz.isAgg156,
 z124:=Tryz.sizeOf156,
 v124:=Tryz.zeroValue156,
 t138:=Tryz.underlying207,
 a138:=Tryz.isAgg207,
 z138:=Tryz.sizeOf207,
 v138:=Tryz.zeroValue207,
 t139:=Tryz.underlying208,
 a139:=Tryz.isAgg208,
 z139:=Tryz.sizeOf208,
 v139:=Tryz.zeroValue208,
 g3:=by kernel_rfl,
 g4:=by kernel_rfl}
theorem EK:Lays.n171 Tryz.prog liR:={
 mixed:=by kernel_rfl,
 f129:=Tryz.func215.trans (congrArg some (by kernel_rfl)),
 f171:=Tryz.func45.trans (congrArg some (by kernel_rfl)),
 f243:=Tryz.func89.trans (congrArg some (by kernel_rfl)),
 f246:=Tryz.func139.trans (congrArg some (by kernel_rfl)),
 f283:=Tryz.func184.trans (congrArg some (by kernel_rfl)),
 f284:=Tryz.func185.trans (congrArg some (by kernel_rfl)),
 f285:=Tryz.func186.trans (congrArg some (by kernel_rfl)),
 f286:=Tryz.func187.trans (congrArg some (by kernel_rfl)),
 f317:=Tryz.func214.trans (congrArg some (by kernel_rfl)),
 f318:=Tryz.func216.trans (congrArg some (by kernel_rfl)),
 f319:=Tryz.func217.trans (congrArg some (by kernel_rfl)),
 f320:=Tryz.func218.trans (congrArg some (by kernel_rfl)),
 f337:=Tryz.func232.trans (congrArg some (by kernel_rfl)),
 f338:=Tryz.func233.trans (congrArg some (by kernel_rfl)),
 t0:=Tryz.underlying0,
 a0:=Tryz.isAgg0,
 z0:=Tryz.sizeOf0,
 v0:=Tryz.zeroValue0,
 t2:=Tryz.underlying2,
 a2:=Tryz.isAgg2,
 z2:=Tryz.sizeOf2,
 v2:=Tryz.zeroValue2,
 t3:=Tryz.underlying3,
 a3:=Tryz.isAgg3,
 z3:=Tryz.sizeOf3,
 v3:=Tryz.zeroValue3,
 t4:=Tryz.underlying4,
 a4:=Tryz.isAgg4,
 z4:=Tryz.sizeOf4,
 v4:=Tryz.zeroValue4,
 t5:=Tryz.underlying5,
 a5:=Tryz.isAgg5,
 z5:=Tryz.sizeOf5,
 v5:=Tryz.zeroValue5,
 t9:=Tryz.underlying9,
 a9:=Tryz.isAgg9,
 z9:=Tryz.sizeOf9,
 v9:=Tryz.zeroValue9,
 t20:=Tryz.underlying20,
 a20:=Tryz.isAgg20,
 z20:=Tryz.sizeOf20,
 v20:=Tryz.zeroValue20,
 t37:=Tryz.underlying22,
 a37:=Tryz.isAgg22,
 z37:=Tryz.sizeOf22,
 v37:=Tryz.zeroValue22,
 t46:=Tryz.underlying172,
 a46:=Tryz.isAgg172,
 z46:=Tryz.sizeOf172,
 v46:=Tryz.zeroValue172,
 t51:=Tryz.underlying209,
 a51:=Tryz.isAgg209,
 z51:=Tryz.sizeOf209,
 v51:=Tryz.zeroValue209,
 t53:=Tryz.underlying197,
 a53:=Tryz.isAgg197,
 z53:=Tryz.sizeOf197,
 v53:=Tryz.zeroValue197,
 t171:=Tryz.underlying196,
 a171:=Tryz.isAgg196,
 z171:=Tryz.sizeOf196,
 v171:=Tryz.zeroValue196,
 t173:=Tryz.underlying200,
 a173:=Tryz.isAgg200,
 z173:=Tryz.sizeOf200,
 v173:=Tryz.zeroValue200,
 t212:=Tryz.underlying229,
 a212:=Tryz.isAgg229,
 z212:=Tryz.sizeOf229,
 v212:=Tryz.zeroValue229,
 t213:=Tryz.underlying230,
 a213:=Tryz.isAgg230,
 z213:=Tryz.sizeOf230,
 t232:=Tryz.underlying251,
 a232:=Tryz.isAgg251,
 z232:=Tryz.sizeOf251,
 v232:=Tryz.zeroValue251,
 t233:=Tryz.underlying252,
 a233:=Tryz.isAgg252,
 z233:=Tryz.sizeOf252,
 v233:=Tryz.zeroValue252,
 g17:=by kernel_rfl,
 g18:=by kernel_rfl,
 g19:=by kernel_rfl}
theorem EL:Lays.n172 Tryz.prog liR:={
 mixed:=by kernel_rfl,
 f129:=Tryz.func215.trans (congrArg some (by kernel_rfl)),
 f171:=Tryz.func45.trans (congrArg some (by kernel_rfl)),
 f172:=Tryz.func82.trans (congrArg some (by kernel_rfl)),
 f205:=Tryz.func212.trans (congrArg some (by kernel_rfl)),
 f243:=Tryz.func89.trans (congrArg some (by kernel_rfl)),
 f244:=Tryz.func129.trans (congrArg some (by kernel_rfl)),
 f245:=Tryz.func130.trans (congrArg some (by kernel_rfl)),
 f246:=Tryz.func139.trans (congrArg some (by kernel_rfl)),
 f247:=Tryz.func175.trans (congrArg some (by kernel_rfl)),
 f279:=Tryz.func176.trans (congrArg some (by kernel_rfl)),
 f280:=Tryz.func177.trans (congrArg some (by kernel_rfl)),
 f281:=Tryz.func178.trans (congrArg some (by kernel_rfl)),
 f282:=Tryz.func179.trans (congrArg some (by kernel_rfl)),
 f283:=Tryz.func184.trans (congrArg some (by kernel_rfl)),
 f284:=Tryz.func185.trans (congrArg some (by kernel_rfl)),
 f285:=Tryz.func186.trans (congrArg some (by kernel_rfl)),
 f286:=Tryz.func187.trans (congrArg some (by kernel_rfl)),
 f287:=Tryz.func210.trans (congrArg some (by kernel_rfl)),
 f316:=Tryz.func211.trans (congrArg some (by kernel_rfl)),
 f317:=Tryz.func214.trans (congrArg some (by kernel_rfl)),
 f318:=Tryz.func216.trans (congrArg some (by kernel_rfl)),
 f319:=Tryz.func217.trans (congrArg some (by kernel_rfl)),
 f320:=Tryz.func218.trans (congrArg some (by kernel_rfl)),
 f321:=Tryz.func230.trans (congrArg some (by kernel_rfl)),
 f322:=Tryz.func231.trans (congrArg some (by kernel_rfl)),
 f337:=Tryz.func232.trans (congrArg some (by kernel_rfl)),
 f338:=Tryz.func233.trans (congrArg some (by kernel_rfl)),
 t0:=Tryz.underlying0,
 a0:=Tryz.isAgg0,
 z0:=Tryz.sizeOf0,
 v0:=Tryz.zeroValue0,
 t2:=Tryz.underlying2,
 a2:=Tryz.isAgg2,
 z2:=Tryz.sizeOf2,
 v2:=Tryz.zeroValue2,
 t3:=Tryz.underlying3,
 a3:=Tryz.isAgg3,
 z3:=Tryz.sizeOf3,
 v3:=Tryz.zeroValue3,
 t4:=Tryz.underlying4,
 a4:=Tryz.isAgg4,
 z4:=Tryz.sizeOf4,
 v4:=Tryz.zeroValue4,
 t5:=Tryz.underlying5,
 a5:=Tryz.isAgg5,
 z5:=Tryz.sizeOf5,
 v5:=Tryz.zeroValue5,
 t9:=Tryz.underlying9,
 a9:=Tryz.isAgg9,
 z9:=Tryz.sizeOf9,
 v9:=Tryz.zeroValue9,
 t20:=Tryz.underlying20,
 a20:=Tryz.isAgg20,
 z20:=Tryz.sizeOf20,
 v20:=Tryz.zeroValue20,
 t21:=Tryz.underlying21,
 a21:=Tryz.isAgg21,
 z21:=Tryz.sizeOf21,
 v21:=Tryz.zeroValue21,
 t37:=Tryz.underlying22,
 a37:=Tryz.isAgg22,
 z37:=Tryz.sizeOf22,
 v37:=Tryz.zeroValue22,
 t46:=Tryz.underlying172,
 a46:=Tryz.isAgg172,
 z46:=Tryz.sizeOf172,
 v46:=Tryz.zeroValue172,
 t51:=Tryz.underlying209,
 a51:=Tryz.isAgg209,
 z51:=Tryz.sizeOf209,
 v51:=Tryz.zeroValue209,
 t53:=Tryz.underlying197,
 a53:=Tryz.isAgg197,
 z53:=Tryz.sizeOf197,
 v53:=Tryz.zeroValue197,
 t75:=Tryz.underlying54,
 a75:=Tryz.isAgg54,
 z75:=Tryz.sizeOf54,
 v75:=Tryz.zeroValue54,
 t76:=Tryz.underlying55,
 a76:=Tryz.isAgg55,
 z76:=Tryz.sizeOf55,
 v76:=Tryz.zeroValue55,
 t85:=Tryz.underlying186,
 a85:=Tryz.isAgg186,
 z85:=Tryz.sizeOf186,
 v85:=Tryz.zeroValue186,
 t127:=Tryz.underlying80,
 a127:=Tryz.isAgg80,
 z127:=Tryz.sizeOf80,
 v127:=Tryz.zeroValue80,
 t143:=Tryz.underlying243,
 a143:=Tryz.isAgg243,
 z143:=Tryz.sizeOf243,
 v143:=Tryz.zeroValue243,
 t145:=Tryz.underlying245,
 a145:=Tryz.isAgg245,
 z145:=Tryz.sizeOf245,
 v145:=Tryz.zeroValue245,
 t167:=Tryz.underlying185,
 a167:=Tryz.isAgg185,
 z167:=Tryz.sizeOf185,
 v167:=Tryz.zeroValue185,
 t168:=Tryz.underlying188,
 a168:=Tryz.isAgg188,
 z168:=Tryz.sizeOf188,
 v168:=Tryz.zeroValue188,
 t171:=Tryz.underlying196,
 a171:=Tryz.isAgg196,
 z171:=Tryz.sizeOf196,
 v171:=Tryz.zeroValue196,
 t173:=Tryz.underlying200,
 a173:=Tryz.isAgg200,
 z173:=Tryz.sizeOf200,
 v173:=Tryz.zeroValue200,
 t175:=Tryz.underlying220,
 a175:=Tryz.isAgg220,
 z175:=Tryz.sizeOf220,
 v175:=Tryz.zeroValue220,
 t210:=Tryz.underlying224,
 a210:=Tryz.isAgg224,
 z210:=Tryz.sizeOf224,
 v210:=Tryz.zeroValue224,
 t212:=Tryz.underlying229,
 a212:=Tryz.isAgg229,
 z212:=Tryz.sizeOf229,
 v212:=Tryz.zeroValue229,
 t213:=Tryz.underlying230,
 a213:=Tryz.isAgg230,
 z213:=Tryz.sizeOf230,
 t232:=Tryz.underlying251,
 a232:=Tryz.isAgg251,
 z232:=Tryz.sizeOf251,
 v232:=Tryz.zeroValue251,
 t233:=Tryz.underlying252,
 a233:=Tryz.isAgg252,
 z233:=Tryz.sizeOf252,
 v233:=Tryz.zeroValue252,
 g15:=by kernel_rfl,
 g16:=by kernel_rfl,
 g17:=by kernel_rfl,
 g18:=by kernel_rfl,
 g19:=by kernel_rfl}
theorem Dt:Lays.n166 Tryz.prog liR:={
 mixed:=by kernel_rfl,
 f166:=Tryz.func26.trans (congrArg some (by kernel_rfl)),
 f240:=Tryz.func39.trans (congrArg some (by kernel_rfl)),
 f276:=Tryz.func66.trans (congrArg some (by kernel_rfl)),
 t0:=Tryz.underlying0,
 a0:=Tryz.isAgg0,
 z0:=Tryz.sizeOf0,
 v0:=Tryz.zeroValue0,
 t3:=Tryz.underlying3,
 a3:=Tryz.isAgg3,
 z3:=Tryz.sizeOf3,
 v3:=Tryz.zeroValue3,
 t4:=Tryz.underlying4,
 a4:=Tryz.isAgg4,
 z4:=Tryz.sizeOf4,
 v4:=Tryz.zeroValue4,
 t9:=Tryz.underlying9,
 a9:=Tryz.isAgg9,
 z9:=Tryz.sizeOf9,
 v9:=Tryz.zeroValue9,
 t20:=Tryz.underlying20,
 a20:=Tryz.isAgg20,
 z20:=Tryz.sizeOf20,
 v20:=Tryz.zeroValue20,
 t37:=Tryz.underlying22,
 a37:=Tryz.isAgg22,
 z37:=Tryz.sizeOf22,
 v37:=Tryz.zeroValue22,
 t70:=Tryz.underlying48,
 a70:=Tryz.isAgg48,
 z70:=Tryz.sizeOf48,
 v70:=Tryz.zeroValue48,
 t72:=Tryz.underlying50,
 a72:=Tryz.isAgg50,
 z72:=Tryz.sizeOf50,
 v72:=Tryz.zeroValue50,
 t75:=Tryz.underlying54,
 a75:=Tryz.isAgg54,
 z75:=Tryz.sizeOf54,
 v75:=Tryz.zeroValue54,
 t164:=Tryz.underlying107,
 a164:=Tryz.isAgg107,
 z164:=Tryz.sizeOf107,
 v164:=Tryz.zeroValue107}
theorem zN:Lays.n169 Tryz.prog liR:={
 mixed:=by kernel_rfl,
 f169:=Tryz.func28.trans (congrArg some (by kernel_rfl)),
 t0:=Tryz.underlying0,
 a0:=Tryz.isAgg0,
 z0:=Tryz.sizeOf0,
 v0:=Tryz.zeroValue0,
 t3:=Tryz.underlying3,
 a3:=Tryz.isAgg3,
 z3:=Tryz.sizeOf3,
 v3:=Tryz.zeroValue3,
 t9:=Tryz.underlying9,
 a9:=Tryz.isAgg9,
 z9:=Tryz.sizeOf9,
 v9:=Tryz.zeroValue9,
 t37:=Tryz.underlying22,
 a37:=Tryz.isAgg22,
 z37:=Tryz.sizeOf22,
 v37:=Tryz.zeroValue22,
 t70:=Tryz.underlying48,
 a70:=Tryz.isAgg48,
 z70:=Tryz.sizeOf48,
 v70:=Tryz.zeroValue48,
 t72:=Tryz.underlying50,
 a72:=Tryz.isAgg50,
 z72:=Tryz.sizeOf50,
 v72:=Tryz.zeroValue50,
 t127:=Tryz.underlying80,
 a127:=Tryz.isAgg80,
 z127:=Tryz.sizeOf80,
 v127:=Tryz.zeroValue80}
theorem sW:Builder.Extra Tryz.prog liR:={
 sizeBuilder:=by kernel_rfl,
 liesBuilder:=by kernel_rfl,
 t5:=Tryz.underlying5,
 a5:=Tryz.isAgg5,
 z5:=Tryz.sizeOf5,
 v5:=Tryz.zeroValue5,
 infoByte:=by kernel_rfl,
 cellsByte:=by kernel_rfl,
 sizeByte:=by kernel_rfl,
 neB5:=by decide}
end Dx
namespace Dx
open Go
def tab:List (Nat×TI) :=
 [(3,⟨.int .i64,1,false,[.int .i64 (.n 0)],8⟩),
   (4,⟨.bool,1,false,[.bool (.b false)],1⟩),
   (5,⟨.int .u8,1,false,[.int .u8 (.n 0)],1⟩),
   (9,⟨.str,1,false,[.str (.s ⟨#[]⟩)],16⟩),
   (22,⟨.slice 5,1,false,[.nil],24⟩),
   (23,⟨.slice 3,1,false,[.nil],24⟩),
   (37,⟨.slice 138,1,false,[.nil],24⟩),
   (39,⟨.struct [(0,1,false),(1,1,false)],2,true,[.nil,.int .i64 (.n 0)],32⟩),
   (40,⟨.slice 97,1,false,[.nil],24⟩),
   (42,⟨.struct [(0,1,false),(1,2,true),(3,1,false)],4,true,[.bool (.b false),.nil,.int .i64 (.n 0),.nil],64⟩),
   (43,⟨.slice 68,1,false,[.nil],24⟩),
   (45,⟨.struct [(0,4,true),(4,1,false),(5,1,false)],6,true,[.bool (.b false),.nil,.int .i64 (.n 0),.nil,.nil,.nil],112⟩),
   (50,⟨.bld 5,2,true,[.nilptr,.nil],32⟩),
   (51,⟨.slice 9,1,false,[.nil],24⟩),
   (64,⟨.struct [(0,1,false),(1,1,false)],2,true,[.nil,.int .i64 (.n 0)],32⟩),
   (68,⟨.struct [(0,1,false),(1,1,false),(2,1,false),(3,2,true)],5,true,[.int .i64 (.n 0),.bool (.b false),.int .i64 (.n 0),.nil,.int .i64 (.n 0)],56⟩),
   (73,⟨.map 9 3,1,false,[.any],8⟩),
   (78,⟨.struct [(0,1,false),(1,1,false),(2,1,false),(3,1,false)],4,true,[.int .i64 (.n 0),.int .i64 (.n 0),.int .i64 (.n 0),.nil],48⟩),
   (81,⟨.slice 84,1,false,[.nil],24⟩),
   (84,⟨.struct [(0,1,false),(1,1,false)],2,true,[.nil,.int .i64 (.n 0)],32⟩),
   (85,⟨.slice 88,1,false,[.nil],24⟩),
   (88,⟨.struct [(0,1,false),(1,1,false)],2,true,[.int .i64 (.n 0),.int .i64 (.n 0)],16⟩),
   (90,⟨.struct [(0,1,false),(1,1,false)],2,true,[.int .i64 (.n 0),.nil],32⟩),
   (97,⟨.struct [(0,1,false),(1,1,false),(2,1,false),(3,1,false)],4,true,[.int .i64 (.n 0),.int .i64 (.n 0),.int .i64 (.n 0),.int .i64 (.n 0)],32⟩),
   (138,⟨.struct [(0,1,false),(1,1,false),(2,1,false)],3,true,[.int .i64 (.n 0),.int .i64 (.n 0),.nil],40⟩),
   (140,⟨.arr 2 3,2,true,[.int .i64 (.n 0),.int .i64 (.n 0)],16⟩),
   (141,⟨.map 3 140,1,false,[.any],8⟩),
   (192,⟨.slice 40,1,false,[.nil],24⟩)]
def tab':Tab:=Aj tab
theorem Li:cj Proofs.Tryz.prog (Aj tab):=HV (by kernel_rfl)
end Dx
namespace Dx
open Go Go.Proofs
def eqs:List (Nat×Nat):=[(97,4),(88,2)]
theorem Lj:D5 Tryz.prog (Cx eqs):=Ny (by kernel_rfl)
theorem qe:Tryz.prog.follows .mixedOrders=true:=by kernel_rfl
def aV:List (Nat×List Sh):=[(68,[.val,.val,.val,(.arr 138 [.val,.val,.val]),.val])]
def rowsD:List (Nat×List Sh):=[]
def vD(fn:Func):Code:=match fn.body with
 | some b=>b
 | none=>.skip
def bs:List (Nat×Bool×Nat×Nat):=[(26,true,50,5),(28,false,50,5)]
set_option maxRecDepth 100000 in
theorem bs_ok:∀ p∈bs,sg Tryz.prog p.1 p.2:=by
 intro p hp
 simp only[bs,List.mem_cons,List.not_mem_nil,or_false]at hp
 rcases hp with rfl|rfl
 ·exact NA Dt sW
 ·exact HY zN sW
def gE(R:List (Nat×List Sh))(tr:Bool)(E:List (Nat×Nat×Con)):Env:=⟨Aj tab,Cx eqs,getR R,GE E,tr,HW bs⟩
abbrev hE:How:=⟨aB [],aB [],aB []⟩
abbrev sI(n:Nat):SV:=.int .i64 (.v n)
theorem fo{G:Env}{Φ:Phi}(hG:EnvOk Tryz.prog G Φ){f:FuncId}(fn:Func){c:Con}(H:How){t:Tree}(h:(Tryz.prog.funcs[f]?,fn.body,fn.name== "runtime.NumGoroutine",fnT G H c fn (vD fn))=(some fn,some (vD fn),false,t)):Has Tryz.prog f c (fun cs=>ai (den Φ t cs)):=by
 simp only[Prod.mk.injEq]at h
 exact fn_ok hG h.1 h.2.1 h.2.2.1 h.2.2.2
theorem eo{E:Nat->List (Nat×Con)}{R:Rows}{tr:Bool}{Φ:Phi}(h:∀ f c,c∈E f->Has Tryz.prog f c.2 (Φ c.1)):EnvOk Tryz.prog ⟨Aj tab,Cx eqs,R,E,tr,HW bs⟩ Φ:=⟨Li,Lj,h,qe,Cy bs_ok⟩
theorem fp{E:List (Nat×Nat×Con)}{R:List (Nat×List Sh)}{tr:Bool}{Φ:Phi}(m:Bz Tryz.prog Φ E){f:FuncId}(fn:Func){c:Con}(H:How){t:Tree}(h:(Tryz.prog.funcs[f]?,fn.body,fn.name== "runtime.NumGoroutine",fnT (gE R tr E) H c fn (vD fn))=(some fn,some (vD fn),false,t)):Has Tryz.prog f c (fun cs=>ai (den Φ t cs)):=fo (eo (pR (kM m))) fn H h
abbrev v5:List Sh:=[.val,.val,.val,.val,.val]
abbrev v4:List Sh:=[.val,.val,.val,.val]
abbrev v3:List Sh:=[.val,.val,.val]
abbrev kW:List CK:=[.bool,.list,kI,.list,.list,.list]
abbrev kD:List CK:=[.bool,.list,kI,.list]
abbrev kH:List CK:=[kI,.bool,kI,.list,kI]
abbrev kJ:List CK:=[kI,kI,kI,kI]
def c_fr:Con:=⟨[.own false [.val] [.list] false],[⟨false,[.val,.val],[.list,kI],true⟩]⟩
theorem Lk:Has Tryz.prog 19 c_fr xL:=fp (R:=aV) (tr:=false) (E:=[]) (Φ:=ph []) (t:=t_fr) trivial Tryz.f19 hE (by kernel_rfl)
def Hz:Con:=⟨[.ptr [.val,.val] [.list,kI],.ro false [kI]],[⟨false,[.val],[kI],false⟩]⟩
theorem vE:Has Tryz.prog 20 Hz dv:=fp (R:=aV) (tr:=false) (E:=[]) (Φ:=ph []) (t:=t_cm) trivial Tryz.f20 hE (by kernel_rfl)
def BV:Con:=⟨[.ro false [kI]],[⟨false,[.val],[.str],false⟩]⟩
def g_gq:Env:=gE aV false [(34,0,BV)]
theorem xb:∀ k,Has Tryz.prog 34 BV (lk k)
 | 0=>⟨cY (fn:=Tryz.f34) (by kernel_rfl) (by kernel_rfl) (by kernel_rfl),fun _ _ _ _ _ _ _ _ _ _ h=>by cases h⟩
 | k+1=>fo (G:=g_gq) (Φ:=ph [lk k]) (t:=Fh) (eo (pR (kM ⟨xb k,trivial⟩))) Tryz.f34 hE (by kernel_rfl)
theorem qT:Has Tryz.prog 34 BV dH:=xb 3
def c_ez:Con:=⟨[.ptr [.val,.val] [.list,kI],.ro false [.list]],[⟨false,[.val],[.str],false⟩]⟩
theorem Ll:Has Tryz.prog 35 c_ez ll:=fp (R:=aV) (tr:=false) (E:=[(20,0,Hz)]) (Φ:=H1) (t:=t_ez) ⟨vE,trivial⟩ Tryz.f35 hE (by kernel_rfl)
def c_ei:Con:=⟨[.ptr [.val,.val] [.list,kI]],[⟨false,[.val],[.str],false⟩]⟩
def h_ei:How:=⟨aB [],
 aB [(13,⟨[.bool],[(37,(.bool (.v 0)))],[],[],0⟩),(10,⟨[.bool],[(30,(.bool (.v 0)))],[],[],0⟩),(7,⟨[.bool],[(23,(.bool (.v 0)))],[],[],0⟩),(4,⟨[.bool],[(5,(.bool (.v 0)))],[],[],0⟩)],
 aB []⟩
theorem Lm:Has Tryz.prog 21 c_ei xM:=fp (R:=aV) (tr:=false) (E:=[(20,0,Hz),(34,1,BV),(35,2,c_ez)]) (Φ:=H2) (t:=t_ei) ⟨vE,qT,Ll,trivial⟩ Tryz.f21 h_ei (by kernel_rfl)
def c_ft:Con:=⟨[.ro false [.str],.ro false [kI]],[⟨false,[.val],[.str],false⟩]⟩
def h_ft:How:=⟨aB [(0,⟨[.str,.str,kI],[(5,(.str (.v 0))),(0,(.str (.v 1))),(1,(sI 2))],[],[],0⟩)],
 aB [],
 aB []⟩
theorem Ln:Has Tryz.prog 22 c_ft xN:=fp (R:=aV) (tr:=false) (E:=[]) (Φ:=ph []) (t:=t_ft) trivial Tryz.f22 h_ft (by kernel_rfl)
def c_dx:Con:=⟨[.ptr [.val,.val] [.list,kI]],[⟨false,[(.arr 3 [.val])],[.list],false⟩]⟩
theorem Lo:Has Tryz.prog 23 c_dx uE:=fp (R:=aV) (tr:=false) (E:=[(20,0,Hz)]) (Φ:=H3) (t:=t_dx) ⟨vE,trivial⟩ Tryz.f23 hE (by kernel_rfl)
def uk:Con:=⟨[.own false [.val] [.list] false],[⟨false,[.val],[.list],false⟩,⟨false,[.val],[.str],false⟩]⟩
def h_ba:How:=⟨aB [(0,⟨[.str,kI,.list,kI],[(5,(.str (.v 0))),(6,(sI 1))],[(0,.cells [(.view true (.v 2)),(sI 3)])],[],0⟩)],
 aB [],
 aB []⟩
theorem gW:Has Tryz.prog 14 uk ij:=fp (R:=aV) (tr:=false) (E:=[(19,0,c_fr),(20,1,Hz),(21,2,c_ei),(22,3,c_ft),(23,4,c_dx)]) (Φ:=H4) (t:=t_ba) ⟨Lk,vE,Lm,Ln,Lo,trivial⟩ Tryz.f14 h_ba (by kernel_rfl)
def c_ee:Con:=⟨[],[⟨true,[.val,.val,.val,(.arr 97 v4)],kD,false⟩]⟩
theorem Lp:Has Tryz.prog 36 c_ee xO:=fp (R:=[]) (tr:=false) (E:=[]) (Φ:=ph []) (t:=t_ee) trivial Tryz.f36 hE (by kernel_rfl)
def lV:Con:=⟨[.ro false [kI],.ro false [kI],.ro false [kI]],[⟨false,[.val],[.bool],false⟩]⟩
theorem dN:Has Tryz.prog 62 lV bK:=fp (R:=[]) (tr:=false) (E:=[]) (Φ:=ph []) (t:=t_gy) trivial Tryz.f62 hE (by kernel_rfl)
def D0:Con:=⟨[.ro false [kI]],[⟨false,[.val],[.bool],false⟩]⟩
theorem nO:Has Tryz.prog 61 D0 fY:=fp (R:=[]) (tr:=false) (E:=[(62,0,lV)]) (Φ:=H5) (t:=t_eo) ⟨dN,trivial⟩ Tryz.f61 hE (by kernel_rfl)
def c_dp:Con:=⟨[.ro false [kI],.ro false [kI]],[⟨true,v5,kH,false⟩,⟨false,[.val],[.bool],false⟩]⟩
theorem Lq:Has Tryz.prog 37 c_dp xP:=fp (R:=[]) (tr:=false) (E:=[(61,0,D0),(62,1,lV)]) (Φ:=H6) (t:=t_dp) ⟨nO,dN,trivial⟩ Tryz.f37 hE (by kernel_rfl)
def c_dl:Con:=⟨[.ro false [.list]],[⟨true,[.val,.val,.val,(.arr 97 v4),(.arr 68 v5),(.arr 97 v4)],kW,false⟩,⟨false,[.val],[.bool],false⟩]⟩
def h_dl:How:=⟨aB [(0,⟨[kI,.list],[(3,(.bool (.b false))),(17,(sI 0))],[(2,.cells [(.bool (.v 1003)),(.view true (.v 1004)),(sI 1005),(.sl 1),(.sl 1000),.nil]),(1000,.arr 68 v5 (.v 1))],[],1⟩)],
 aB [],
 aB []⟩
theorem Lr:Has Tryz.prog 24 c_dl xQ:=fp (R:=[]) (tr:=false) (E:=[(36,0,c_ee),(37,1,c_dp)]) (Φ:=H7) (t:=t_dl) ⟨Lp,Lq,trivial⟩ Tryz.f24 h_dl (by kernel_rfl)
def c_ds:Con:=jn 9
theorem Ls:Has Tryz.prog 25 c_ds lO:=DF Ds (by kernel_rfl) rfl
def iW:Con:=ma
theorem lW:Has Tryz.prog 81 iW bV:=Fc EJ (by kernel_rfl)
def iX:Con:=me
theorem lX:Has Tryz.prog 82 iX bW:=Ff EL
def c_fy:Con:=⟨[.ro false [.list],.ro false [kI]],[⟨false,[.val],[kI],false⟩]⟩
theorem Lt:Has Tryz.prog 41 c_fy il:=fp (R:=[]) (tr:=false) (E:=[(62,0,lV),(81,1,iW),(82,2,iX)]) (Φ:=H8) (t:=t_fy) ⟨dN,lW,lX,trivial⟩ Tryz.f41 hE (by kernel_rfl)
def c_bw:Con:=⟨[.ro false [kI]],[⟨false,[.val],[.bool],false⟩]⟩
theorem Lu:Has Tryz.prog 201 c_bw xR:=fp (R:=[]) (tr:=false) (E:=[(62,0,lV)]) (Φ:=H9) (t:=t_bw) ⟨dN,trivial⟩ Tryz.f201 hE (by kernel_rfl)
def c_ao:Con:=⟨[.ro false [.list],.fn 201 []],[⟨false,[.val],[kI],false⟩]⟩
def h_ao:How:=⟨aB [(0,⟨[kI],[(4,(.int .i64 (.n 0))),(8,(sI 0))],[],[],0⟩)],
 aB [],
 aB []⟩
theorem Lv:Has Tryz.prog 225 c_ao xS:=fp (R:=[]) (tr:=false) (E:=[(201,0,c_bw)]) (Φ:=Ib) (t:=t_ao) ⟨Lu,trivial⟩ Tryz.f225 h_ao (by kernel_rfl)
def c_al:Con:=⟨[.ro false [.list],.fn 201 []],[⟨false,[.val],[.bool],false⟩]⟩
theorem Lw:Has Tryz.prog 203 c_al xT:=fp (R:=[]) (tr:=false) (E:=[(225,0,c_ao)]) (Φ:=Ic) (t:=t_al) ⟨Lv,trivial⟩ Tryz.f203 hE (by kernel_rfl)
def c_cg:Con:=⟨[.ro false [kI]],[⟨false,[.val],[.bool],false⟩]⟩
theorem Lx:Has Tryz.prog 202 c_cg xU:=fp (R:=[]) (tr:=false) (E:=[]) (Φ:=ph []) (t:=t_cg) trivial Tryz.f202 hE (by kernel_rfl)
def c_an:Con:=⟨[.ro false [.list],.fn 202 []],[⟨false,[.val],[kI],false⟩]⟩
def h_an:How:=⟨aB [(0,⟨[kI],[(4,(.int .i64 (.n 0))),(8,(sI 0))],[],[],0⟩)],
 aB [],
 aB []⟩
theorem Ly:Has Tryz.prog 225 c_an xV:=fp (R:=[]) (tr:=false) (E:=[(202,0,c_cg)]) (Φ:=Ie) (t:=t_an) ⟨Lx,trivial⟩ Tryz.f225 h_an (by kernel_rfl)
def c_ak:Con:=⟨[.ro false [.list],.fn 202 []],[⟨false,[.val],[.bool],false⟩]⟩
theorem Lz:Has Tryz.prog 203 c_ak xW:=fp (R:=[]) (tr:=false) (E:=[(225,0,c_an)]) (Φ:=If) (t:=t_ak) ⟨Ly,trivial⟩ Tryz.f203 hE (by kernel_rfl)
def c_dr:Con:=⟨[.ro false [.list]],[⟨false,[.val],[.bool],false⟩]⟩
theorem FC:Has Tryz.prog 167 c_dr rx:=fp (R:=[]) (tr:=false) (E:=[(203,0,c_al),(203,1,c_ak)]) (Φ:=Ig) (t:=t_dr) ⟨Lw,Lz,trivial⟩ Tryz.f167 hE (by kernel_rfl)
def HA:Con:=⟨[.ro false [kI]],[⟨false,[.val],[.bool],false⟩]⟩
theorem vF:Has Tryz.prog 90 HA gB:=fp (R:=[]) (tr:=false) (E:=[(62,0,lV)]) (Φ:=Ih) (t:=t_fv) ⟨dN,trivial⟩ Tryz.f90 hE (by kernel_rfl)
def FD:Con:=⟨[.ro true [kI,kI,.list]],[⟨false,[.val],[.bool],false⟩]⟩
theorem qU:Has Tryz.prog 113 FD iG:=fp (R:=[]) (tr:=false) (E:=[(62,0,lV),(167,1,c_dr),(90,2,HA)]) (Φ:=Ii) (t:=t_gm) ⟨dN,FC,vF,trivial⟩ Tryz.f113 hE (by kernel_rfl)
def c_fk:Con:=⟨[.ro true [kI,kI,.list]],[⟨false,[.val],[.bool],false⟩]⟩
theorem LA:Has Tryz.prog 198 c_fk xX:=fp (R:=[]) (tr:=false) (E:=[(113,0,FD)]) (Φ:=Ij) (t:=t_fk) ⟨qU,trivial⟩ Tryz.f198 hE (by kernel_rfl)
def c_am:Con:=⟨[.ro false [.list],.fn 198 []],[⟨false,[.val],[kI],false⟩]⟩
def h_am:How:=⟨aB [(0,⟨[kI],[(4,(.int .i64 (.n 0))),(8,(sI 0))],[],[],0⟩)],
 aB [],
 aB []⟩
theorem LB:Has Tryz.prog 224 c_am xY:=fp (R:=[]) (tr:=false) (E:=[(198,0,c_fk)]) (Φ:=Ik) (t:=t_am) ⟨LA,trivial⟩ Tryz.f224 h_am (by kernel_rfl)
def c_ai:Con:=⟨[.ro false [.list],.fn 198 []],[⟨false,[.val],[.bool],false⟩]⟩
theorem LC:Has Tryz.prog 199 c_ai xZ:=fp (R:=[]) (tr:=false) (E:=[(224,0,c_am)]) (Φ:=Il) (t:=t_ai) ⟨LB,trivial⟩ Tryz.f199 hE (by kernel_rfl)
def FE:Con:=⟨[.ro true [.list,kI]],[⟨false,[.val],[.bool],false⟩]⟩
theorem qV:Has Tryz.prog 163 FE iH:=fp (R:=[]) (tr:=false) (E:=[(62,0,lV),(199,1,c_ai)]) (Φ:=In) (t:=t_gk) ⟨dN,LC,trivial⟩ Tryz.f163 hE (by kernel_rfl)
def c_cw:Con:=⟨[.ro true [.list,kI]],[⟨false,[.val],[.bool],false⟩]⟩
theorem LD:Has Tryz.prog 226 c_cw ya:=fp (R:=[]) (tr:=false) (E:=[(167,0,c_dr),(62,1,lV)]) (Φ:=Io) (t:=t_cw) ⟨FC,dN,trivial⟩ Tryz.f226 hE (by kernel_rfl)
def c_aj:Con:=⟨[.ro false [.list],.fn 226 []],[⟨false,[.val],[kI],false⟩]⟩
def h_aj:How:=⟨aB [(0,⟨[kI],[(4,(.int .i64 (.n 0))),(8,(sI 0))],[],[],0⟩)],
 aB [],
 aB []⟩
theorem LF:Has Tryz.prog 239 c_aj yb:=fp (R:=[]) (tr:=false) (E:=[(226,0,c_cw)]) (Φ:=Ip) (t:=t_aj) ⟨LD,trivial⟩ Tryz.f239 h_aj (by kernel_rfl)
def c_ae:Con:=⟨[.ro false [.list],.fn 226 []],[⟨false,[.val],[.bool],false⟩]⟩
theorem LG:Has Tryz.prog 227 c_ae yc:=fp (R:=[]) (tr:=false) (E:=[(239,0,c_aj)]) (Φ:=Iq) (t:=t_ae) ⟨LF,trivial⟩ Tryz.f227 hE (by kernel_rfl)
def c_em:Con:=⟨[.ro false [.list]],[⟨false,[.val],[.bool],false⟩]⟩
theorem LH:Has Tryz.prog 204 c_em yd:=fp (R:=[]) (tr:=false) (E:=[(227,0,c_ae)]) (Φ:=Ir) (t:=t_em) ⟨LG,trivial⟩ Tryz.f204 hE (by kernel_rfl)
def c_eg:Con:=⟨[.ro false [.list],.ro false [kI]],[⟨false,[.val],[kI],false⟩]⟩
theorem FF:Has Tryz.prog 205 c_eg ry:=fp (R:=[]) (tr:=false) (E:=[(62,0,lV)]) (Φ:=Is) (t:=t_eg) ⟨dN,trivial⟩ Tryz.f205 hE (by kernel_rfl)
def c_ec:Con:=⟨[.ro false [.list],.ro true [kI,kI,.list]],[⟨false,[.val],[.bool],false⟩]⟩
theorem FH:Has Tryz.prog 168 c_ec rz:=fp (R:=[]) (tr:=false) (E:=[(204,0,c_em),(113,1,FD),(205,2,c_eg)]) (Φ:=It) (t:=t_ec) ⟨LH,qU,FF,trivial⟩ Tryz.f168 hE (by kernel_rfl)
def c_bj:Con:=⟨[.ro false [.list]],[⟨false,[.val],[.list],false⟩]⟩
theorem FI:Has Tryz.prog 183 c_bj oq:=fp (R:=[]) (tr:=false) (E:=[]) (Φ:=ph []) (t:=t_bj) trivial Tryz.f183 hE (by kernel_rfl)
def c_fb:Con:=⟨[.ro false [.list],.ro true [kI,kI,.list]],[⟨false,[.val],[.list],false⟩,⟨false,[.val],[.bool],false⟩]⟩
def h_fb:How:=⟨aB [(0,⟨[kI,.list],[(6,(.sl 1000)),(16,(sI 0))],[(1000,.arr 84 [.val,.val] (.v 1))],[],1⟩)],
 aB [],
 aB []⟩
theorem LI:Has Tryz.prog 138 c_fb yf:=fp (R:=[]) (tr:=false) (E:=[(168,0,c_ec),(183,1,c_bj)]) (Φ:=Iu) (t:=t_fb) ⟨FH,FI,trivial⟩ Tryz.f138 h_fb (by kernel_rfl)
def c_ej:Con:=⟨[.ro false [.list]],[⟨false,[.val],[.list],false⟩,⟨false,[.val],[.bool],false⟩]⟩
def h_ej:How:=⟨aB [(0,⟨[.list,.bool,kI],[(4,(.view true (.v 0))),(5,(.bool (.v 1))),(6,(sI 2))],[],[],0⟩)],
 aB [],
 aB []⟩
theorem FJ:Has Tryz.prog 87 c_ej rA:=fp (R:=[]) (tr:=false) (E:=[(138,0,c_fb)]) (Φ:=Iv) (t:=t_ej) ⟨LI,trivial⟩ Tryz.f87 h_ej (by kernel_rfl)
def FK:Con:=⟨[.ro true kJ],[⟨false,[.val],[.bool],false⟩]⟩
theorem qW:Has Tryz.prog 133 FK iI:=fp (R:=[]) (tr:=false) (E:=[(62,0,lV),(61,1,D0),(90,2,HA)]) (Φ:=Iw) (t:=t_fz) ⟨dN,nO,vF,trivial⟩ Tryz.f133 hE (by kernel_rfl)
def FL:Con:=⟨[.ro true kJ],[⟨false,[.val],[.bool],false⟩]⟩
theorem qX:Has Tryz.prog 164 FL iJ:=fp (R:=[]) (tr:=false) (E:=[]) (Φ:=ph []) (t:=t_bn) trivial Tryz.f164 hE (by kernel_rfl)
def c_at:Con:=⟨[.ro false [.list],.ro true kJ],[⟨false,[.val],[kI],false⟩]⟩
def h_at:How:=⟨aB [(0,⟨[kI],[(4,(.int .i64 (.n 0))),(8,(sI 0))],[],[],0⟩)],
 aB [],
 aB []⟩
theorem LJ:Has Tryz.prog 200 c_at yg:=fp (R:=[]) (tr:=false) (E:=[]) (Φ:=ph []) (t:=t_at) trivial Tryz.f200 h_at (by kernel_rfl)
def Ky:Con:=⟨[.ro false [.list],.ro true kJ],[⟨false,[.val],[.bool],false⟩]⟩
theorem Bg:Has Tryz.prog 165 Ky np:=fp (R:=[]) (tr:=false) (E:=[(200,0,c_at)]) (Φ:=Ix) (t:=t_ap) ⟨LJ,trivial⟩ Tryz.f165 hE (by kernel_rfl)
def D1:Con:=⟨[.ro true kD],[⟨false,[.val],[.bool],false⟩]⟩
def h_gc:How:=⟨aB [(0,⟨[kI],[(2,(.bool (.b false))),(32,(sI 0))],[],[],0⟩)],
 aB [(3,⟨[],[(2,(.bool (.b false)))],[],[],0⟩)],
 aB []⟩
theorem nP:Has Tryz.prog 111 D1 gC:=fp (R:=[]) (tr:=false) (E:=[(163,0,FE),(87,1,c_ej),(133,2,FK),(164,3,FL),(165,4,Ky)]) (Φ:=Iy) (t:=t_gc) ⟨qV,FJ,qW,qX,Bg,trivial⟩ Tryz.f111 h_gc (by kernel_rfl)
def c_ch:Con:=⟨[.ro true [kI,kI,.list]],[⟨true,v3,[kI,kI,.list],false⟩]⟩
theorem FM:Has Tryz.prog 206 c_ch rB:=fp (R:=[]) (tr:=false) (E:=[(183,0,c_bj)]) (Φ:=Iz) (t:=t_ch) ⟨FI,trivial⟩ Tryz.f206 hE (by kernel_rfl)
def Kz:Con:=⟨[.ro true [.list,kI],.ro false [kI],.ro false [kI]],[⟨true,[(.arr 138 v3),.val],[.list,kI],false⟩]⟩
def h_cx:How:=⟨aB [(0,⟨[kI,.list],[(17,(sI 0))],[(2,.cells [(.sl 1000),(sI 1003)]),(1000,.arr 138 v3 (.v 1))],[],1⟩)],
 aB [],
 aB []⟩
theorem Bh:Has Tryz.prog 171 Kz nq:=fp (R:=[]) (tr:=false) (E:=[(206,0,c_ch)]) (Φ:=IA) (t:=t_cx) ⟨FM,trivial⟩ Tryz.f171 h_cx (by kernel_rfl)
def KA:Con:=⟨[.ro true [.list,kI]],[⟨true,[(.arr 138 v3),.val],[.list,kI],false⟩]⟩
theorem Bi:Has Tryz.prog 166 KA nr:=fp (R:=[]) (tr:=false) (E:=[(171,0,Kz)]) (Φ:=IB) (t:=t_ce) ⟨Bh,trivial⟩ Tryz.f166 hE (by kernel_rfl)
def c_au:Con:=⟨[.ro false [.list]],[⟨false,[(.arr 97 v4)],[.list],false⟩]⟩
theorem FN:Has Tryz.prog 134 c_au rC:=fp (R:=[]) (tr:=false) (E:=[]) (Φ:=ph []) (t:=t_au) trivial Tryz.f134 hE (by kernel_rfl)
def FO:Con:=⟨[.ro true kD],[⟨true,[.val,.val,.val,(.arr 97 v4)],kD,false⟩]⟩
theorem qY:Has Tryz.prog 112 FO iK:=fp (R:=[]) (tr:=false) (E:=[(166,0,KA),(134,1,c_au)]) (Φ:=IC) (t:=t_bk) ⟨Bi,FN,trivial⟩ Tryz.f112 hE (by kernel_rfl)
def c_cy:Con:=⟨[.own true [.val,.val] [.list,kI] false,.ro false [.bool]],[⟨false,[.val],[.list],false⟩]⟩
theorem FP:Has Tryz.prog 88 c_cy rD:=fp (R:=[]) (tr:=false) (E:=[]) (Φ:=ph []) (t:=t_cy) trivial Tryz.f88 hE (by kernel_rfl)
def D2:Con:=⟨[.ro true kD,.ro false [.bool]],[⟨false,[.val],[.list],false⟩]⟩
theorem nQ:Has Tryz.prog 44 D2 fw:=fp (R:=[]) (tr:=false) (E:=[(88,0,c_cy),(87,1,c_ej)]) (Φ:=ID) (t:=t_cf) ⟨FP,FJ,trivial⟩ Tryz.f44 hE (by kernel_rfl)
def c_fo:Con:=⟨[.ro true [.list,kI],.ro true [kI,kI,.list]],[⟨true,[.val,.val],[.list,kI],false⟩,⟨false,[.val],[.bool],false⟩]⟩
theorem FQ:Has Tryz.prog 169 c_fo rE:=fp (R:=[]) (tr:=false) (E:=[(163,0,FE),(113,1,FD),(166,2,KA),(206,3,c_ch)]) (Φ:=IE) (t:=t_fo) ⟨qV,qU,Bi,FM,trivial⟩ Tryz.f169 hE (by kernel_rfl)
def KB:Con:=⟨[.ptr [.val,.val,.val,(.arr 97 v4)] kD,.ro true [kI,kI,.list]],[⟨false,[.val],[.bool],false⟩]⟩
theorem Bj:Has Tryz.prog 114 KB im:=fp (R:=[]) (tr:=false) (E:=[(44,0,D2),(168,1,c_ec),(169,2,c_fo)]) (Φ:=IF) (t:=t_bv) ⟨nQ,FH,FQ,trivial⟩ Tryz.f114 hE (by kernel_rfl)
def c_ct:Con:=⟨[.ro true kD,.ro false [.list]],[⟨true,[.val,.val,.val,(.arr 97 v4)],kD,false⟩,⟨false,[.val],[.bool],false⟩]⟩
theorem LK:Has Tryz.prog 67 c_ct yh:=fp (R:=[]) (tr:=false) (E:=[(111,0,D1),(112,1,FO),(44,2,D2),(113,3,FD),(114,4,KB)]) (Φ:=IG) (t:=t_ct) ⟨nP,qY,nQ,qU,Bj,trivial⟩ Tryz.f67 hE (by kernel_rfl)
def c_dz:Con:=⟨[.ro true kD,.ro false [kI]],[⟨true,[.val,.val,.val,(.arr 97 v4)],kD,false⟩,⟨false,[.val],[.bool],false⟩]⟩
theorem LM:Has Tryz.prog 68 c_dz yi:=fp (R:=[]) (tr:=false) (E:=[(111,0,D1),(90,1,HA),(112,2,FO),(114,3,KB)]) (Φ:=IH) (t:=t_dz) ⟨nP,vF,qY,Bj,trivial⟩ Tryz.f68 hE (by kernel_rfl)
def c_cu:Con:=⟨[.ro true kD,.ro false [kI],.ro false [kI],.ro false [kI]],[⟨false,[.val],[.bool],false⟩]⟩
theorem FR:Has Tryz.prog 115 c_cu rF:=fp (R:=[]) (tr:=false) (E:=[(165,0,Ky)]) (Φ:=II) (t:=t_cu) ⟨Bg,trivial⟩ Tryz.f115 hE (by kernel_rfl)
def KC:Con:=⟨[.ro true kD],[⟨false,[.val],[.list],false⟩]⟩
def h_bu:How:=⟨aB [(0,⟨[kI,.list],[(4,(.sl 1000)),(23,(sI 0))],[(1000,.arr 97 v4 (.v 1))],[],1⟩),(2,⟨[kI,.list],[(4,(.sl 1000)),(38,(sI 0))],[(1000,.arr 97 v4 (.v 1))],[2],1⟩)],
 aB [],
 aB []⟩
theorem Bl:Has Tryz.prog 69 KC lm:=fp (R:=[]) (tr:=false) (E:=[(44,0,D2),(115,1,c_cu)]) (Φ:=IJ) (t:=t_bu) ⟨nQ,FR,trivial⟩ Tryz.f69 h_bu (by kernel_rfl)
def c_bs:Con:=⟨[.ptr [.val,.val,.val,(.arr 97 v4),(.arr 68 v5),(.arr 97 v4)] kW,.ro true kJ],[]⟩
theorem FS:Has Tryz.prog 70 c_bs jU:=fp (R:=[]) (tr:=false) (E:=[]) (Φ:=ph []) (t:=t_bs) trivial Tryz.f70 hE (by kernel_rfl)
theorem LN:Has Tryz.prog 116 (nX 97) si:=An (ρ:=⟨fun _=>116,fun t=>match t with|22=>40|23=>97|3=>3|4=>4|_=>0,fun x=>x⟩) ⟨qe,⟨Tryz.f116.name,by kernel_rfl,by kernel_rfl⟩,by kernel_rfl,by kernel_rfl,by kernel_rfl,by kernel_rfl⟩ rfl
def c_ar:Con:=nX 97
def c_bx:Con:=⟨[.ro true kD,.ro false [kI],.ro false [kI],.ro false [.list]],[⟨false,[.val],[.bool],false⟩,⟨false,[.val],[.bool],false⟩]⟩
def h_bx:How:=⟨aB [(0,⟨[.bool,.bool,kI],[(8,(.bool (.v 0))),(9,(.bool (.v 1))),(15,(sI 2))],[],[],0⟩)],
 aB [],
 aB []⟩
theorem LO:Has Tryz.prog 213 c_bx ot:=fp (R:=[]) (tr:=false) (E:=[(115,0,c_cu)]) (Φ:=IK) (t:=t_bx) ⟨FR,trivial⟩ Tryz.f213 h_bx (by kernel_rfl)
def c_bl:Con:=⟨[.ptr [.val,.val,.val,(.arr 97 v4)] kD,.ro false [kI]],[]⟩
def h_bl:How:=⟨aB [],
 aB [(9,⟨[.bool],[(82,(.bool (.v 0)))],[],[],0⟩),(7,⟨[.bool],[(71,(.bool (.v 0)))],[],[],0⟩)],
 aB []⟩
theorem LP:Has Tryz.prog 182 c_bl uL:=fp (R:=[]) (tr:=false) (E:=[(44,0,D2),(213,1,c_bx),(205,2,c_eg),(114,3,KB)]) (Φ:=GF) (t:=t_bl) ⟨nQ,LO,FF,Bj,trivial⟩ Tryz.f182 h_bl (by kernel_rfl)
def KD:Con:=⟨[.ptr [.val,.val,.val,(.arr 97 v4)] kD,.ro true kJ],[]⟩
theorem Bm:Has Tryz.prog 136 KD nt:=fp (R:=[]) (tr:=false) (E:=[(133,0,FK),(164,1,FL),(44,2,D2),(165,3,Ky),(182,4,c_bl)]) (Φ:=IL) (t:=t_db) ⟨qW,qX,nQ,Bg,LP,trivial⟩ Tryz.f136 hE (by kernel_rfl)
def c_dm:Con:=⟨[.ro false [kI]],[⟨true,[.val,(.arr 88 [.val,.val])],[kI,.list],false⟩,⟨false,[.val],[.bool],false⟩]⟩
theorem LQ:Has Tryz.prog 140 c_dm yj:=fp (R:=[]) (tr:=false) (E:=[(62,0,lV)]) (Φ:=IM) (t:=t_dm) ⟨dN,trivial⟩ Tryz.f140 hE (by kernel_rfl)
def c_fc:Con:=⟨[.ro true [kI,kI]],[⟨false,[.val],[.bool],false⟩]⟩
theorem LR:Has Tryz.prog 235 c_fc yk:=fp (R:=[]) (tr:=false) (E:=[(62,0,lV)]) (Φ:=IN) (t:=t_fc) ⟨dN,trivial⟩ Tryz.f235 hE (by kernel_rfl)
def c_dc:Con:=⟨[.ro true [kI,kI]],[⟨false,[.val],[.bool],false⟩]⟩
theorem LS:Has Tryz.prog 234 c_dc yl:=fp (R:=[]) (tr:=false) (E:=[(235,0,c_fc)]) (Φ:=IP) (t:=t_dc) ⟨LR,trivial⟩ Tryz.f234 hE (by kernel_rfl)
def c_ah:Con:=⟨[.ro false [.list],.fn 234 []],[⟨false,[.val],[kI],false⟩]⟩
def h_ah:How:=⟨aB [(0,⟨[kI],[(4,(.int .i64 (.n 0))),(8,(sI 0))],[],[],0⟩)],
 aB [],
 aB []⟩
theorem LU:Has Tryz.prog 240 c_ah ym:=fp (R:=[]) (tr:=false) (E:=[(234,0,c_dc)]) (Φ:=IQ) (t:=t_ah) ⟨LS,trivial⟩ Tryz.f240 h_ah (by kernel_rfl)
def c_af:Con:=⟨[.ro false [.list],.fn 234 []],[⟨false,[.val],[.bool],false⟩]⟩
theorem LV:Has Tryz.prog 236 c_af yn:=fp (R:=[]) (tr:=false) (E:=[(240,0,c_ah)]) (Φ:=IR) (t:=t_af) ⟨LU,trivial⟩ Tryz.f236 hE (by kernel_rfl)
def KE:Con:=⟨[.ro true [kI,.list]],[⟨false,[.val],[kI],false⟩]⟩
def h_cj:How:=⟨aB [(0,⟨[kI,kI],[(3,(sI 0)),(11,(sI 1))],[],[],0⟩)],
 aB [],
 aB []⟩
theorem Bn:Has Tryz.prog 48 KE nu:=fp (R:=[]) (tr:=false) (E:=[]) (Φ:=ph []) (t:=t_cj) trivial Tryz.f48 h_cj (by kernel_rfl)
def c_ef:Con:=⟨[.ro true [kI,.list]],[⟨false,[.val],[.bool],false⟩]⟩
theorem LW:Has Tryz.prog 219 c_ef yo:=fp (R:=[]) (tr:=false) (E:=[(62,0,lV),(236,1,c_af),(48,2,KE)]) (Φ:=IS) (t:=t_ef) ⟨dN,LV,Bn,trivial⟩ Tryz.f219 hE (by kernel_rfl)
def c_dg:Con:=⟨[.ro true [kI,.list],.ro true [kI,kI,.list]],[⟨false,[.val],[.bool],false⟩]⟩
theorem FT:Has Tryz.prog 188 c_dg rG:=fp (R:=[]) (tr:=false) (E:=[(219,0,c_ef),(113,1,FD),(48,2,KE)]) (Φ:=IT) (t:=t_dg) ⟨LW,qU,Bn,trivial⟩ Tryz.f188 hE (by kernel_rfl)
def c_as:Con:=⟨[.ro false [.list]],[⟨false,[(.arr 88 [.val,.val])],[.list],false⟩]⟩
theorem LX:Has Tryz.prog 189 c_as yp:=fp (R:=[]) (tr:=false) (E:=[]) (Φ:=ph []) (t:=t_as) trivial Tryz.f189 hE (by kernel_rfl)
def c_eq:Con:=⟨[.ro true [kI,.list],.ro true [kI,kI,.list]],[⟨true,[.val,.val],[kI,.list],false⟩,⟨false,[.val],[.bool],false⟩]⟩
def h_eq:How:=⟨aB [],
 aB [(4,⟨[.list],[(6,(.ptr 1000 0))],[(1000,.cells [(sI 1000),(.sl 1001)]),(1001,.arr 88 [.val,.val] (.v 0))],[],2⟩)],
 aB []⟩
theorem LY:Has Tryz.prog 141 c_eq yq:=fp (R:=[]) (tr:=false) (E:=[(188,0,c_dg),(189,1,c_as)]) (Φ:=IU) (t:=t_eq) ⟨FT,LX,trivial⟩ Tryz.f141 h_eq (by kernel_rfl)
def c_eh:Con:=⟨[.ro false [kI],.ro false [.list]],[⟨true,[.val,.val],[kI,.list],false⟩,⟨false,[.val],[.bool],false⟩]⟩
def h_eh:How:=⟨aB [(0,⟨[.bool,kI,kI,.list],[(7,(.bool (.v 0))),(8,(sI 1))],[(2,.cells [(sI 2),(.view true (.v 3))])],[],0⟩)],
 aB [],
 aB []⟩
theorem FU:Has Tryz.prog 91 c_eh rH:=fp (R:=[]) (tr:=false) (E:=[(140,0,c_dm),(141,1,c_eq)]) (Φ:=IV) (t:=t_eh) ⟨LQ,LY,trivial⟩ Tryz.f91 h_eh (by kernel_rfl)
def FV:Con:=⟨[.ro true kH],[⟨false,[.val],[.bool],false⟩]⟩
theorem qZ:Has Tryz.prog 119 FV iL:=fp (R:=[]) (tr:=false) (E:=[(61,0,D0),(163,1,FE),(91,2,c_eh)]) (Φ:=IW) (t:=t_ev) ⟨nO,qV,FU,trivial⟩ Tryz.f119 hE (by kernel_rfl)
def HB:Con:=⟨[.ro true kH],[⟨true,v5,kH,false⟩]⟩
theorem vG:Has Tryz.prog 120 HB jV:=fp (R:=[]) (tr:=false) (E:=[(166,0,KA)]) (Φ:=IX) (t:=t_bf) ⟨Bi,trivial⟩ Tryz.f120 hE (by kernel_rfl)
def HC:Con:=⟨[.ro true kH,.ro false [.bool]],[⟨true,[.val,.val],[kI,.list],false⟩]⟩
theorem vH:Has Tryz.prog 47 HC jo:=fp (R:=[]) (tr:=false) (E:=[(88,0,c_cy),(91,1,c_eh)]) (Φ:=IY) (t:=t_bp) ⟨FP,FU,trivial⟩ Tryz.f47 hE (by kernel_rfl)
def c_ax:Con:=⟨[.ro true kH,.ro true kJ],[⟨false,[.val],[kI],false⟩]⟩
def h_ax:How:=⟨aB [],
 aB [(5,⟨[.bool],[(33,(.bool (.v 0)))],[],[],0⟩),(3,⟨[.bool],[(25,(.bool (.v 0)))],[],[],0⟩)],
 aB []⟩
theorem LZ:Has Tryz.prog 207 c_ax yr:=fp (R:=[]) (tr:=false) (E:=[(47,0,HC)]) (Φ:=IZ) (t:=t_ax) ⟨vH,trivial⟩ Tryz.f207 h_ax (by kernel_rfl)
def c_cl:Con:=⟨[.ro true kH,.ro true kJ],[⟨true,v5,kH,false⟩,⟨true,v4,kJ,false⟩,⟨false,[.val],[.bool],false⟩]⟩
def h_cl:How:=⟨aB [],
 aB [(9,⟨[.list],[],[(5,.cells [(sI 1005),(sI 1007),(.sl 1000)]),(1000,.arr 3 [.val] (.v 0))],[],1⟩)],
 aB []⟩
theorem FW:Has Tryz.prog 170 c_cl rI:=fp (R:=[]) (tr:=false) (E:=[(119,0,FV),(120,1,HB),(133,2,FK),(164,3,FL),(47,4,HC),(188,5,c_dg),(169,6,c_fo),(207,7,c_ax)]) (Φ:=Ja) (t:=t_cl) ⟨qZ,vG,qW,qX,vH,FT,FQ,LZ,trivial⟩ Tryz.f170 h_cl (by kernel_rfl)
def c_bo:Con:=⟨[.ptr [.val,.val,.val,(.arr 97 v4),(.arr 68 v5),(.arr 97 v4)] kW,.ro true kJ],[⟨true,v4,kJ,false⟩,⟨false,[.val],[.bool],false⟩]⟩
theorem Ma:Has Tryz.prog 117 c_bo uN:=fp (R:=[]) (tr:=false) (E:=[(164,0,FL),(136,1,KD),(170,2,c_cl)]) (Φ:=Jb) (t:=t_bo) ⟨qX,Bm,FW,trivial⟩ Tryz.f117 hE (by kernel_rfl)
def c_cp:Con:=⟨[.ptr [.val,.val,.val,(.arr 97 v4),(.arr 68 v5),(.arr 97 v4)] kW,.ro true [kI,kI,kI,.list]],[]⟩
def h_cp:How:=⟨aB [],
 aB [(3,⟨kJ,[(4,(.ptr 1000 0))],[(1000,.cells [(sI 0),(sI 1),(sI 2),(sI 3)])],[],1⟩)],
 aB []⟩
theorem Mb:Has Tryz.prog 71 c_cp yt:=fp (R:=[]) (tr:=false) (E:=[(62,0,lV),(70,1,c_bs),(116,2,c_ar),(117,3,c_bo)]) (Φ:=Jc) (t:=t_cp) ⟨dN,FS,LN,Ma,trivial⟩ Tryz.f71 h_cp (by kernel_rfl)
def c_di:Con:=⟨[.ro true [.list,kI]],[⟨true,[.val,.val],[.list,kI],false⟩]⟩
theorem FX:Has Tryz.prog 118 c_di rJ:=fp (R:=[]) (tr:=false) (E:=[(163,0,FE),(171,1,Kz)]) (Φ:=Jd) (t:=t_di) ⟨qV,Bh,trivial⟩ Tryz.f118 hE (by kernel_rfl)
def c_cq:Con:=⟨[.ro true kD],[⟨true,[.val,.val,.val,(.arr 97 v4)],kD,false⟩]⟩
theorem Mc:Has Tryz.prog 73 c_cq yu:=fp (R:=[]) (tr:=false) (E:=[(111,0,D1),(112,1,FO),(118,2,c_di)]) (Φ:=Je) (t:=t_cq) ⟨nP,qY,FX,trivial⟩ Tryz.f73 hE (by kernel_rfl)
def c_cd:Con:=⟨[.ro true kH],[⟨true,v5,kH,false⟩]⟩
theorem Md:Has Tryz.prog 74 c_cd yv:=fp (R:=[]) (tr:=false) (E:=[(119,0,FV),(120,1,HB),(118,2,c_di)]) (Φ:=Jf) (t:=t_cd) ⟨qZ,vG,FX,trivial⟩ Tryz.f74 hE (by kernel_rfl)
def c_ab:Con:=⟨[.ptr [.val,.val,.val,(.arr 97 v4),(.arr 68 v5),(.arr 97 v4)] kW,.ro false [kI],.fn 73 [],.fn 74 []],[]⟩
theorem FY:Has Tryz.prog 72 c_ab rK:=fp (R:=[]) (tr:=false) (E:=[(61,0,D0),(73,1,c_cq),(74,2,c_cd)]) (Φ:=Jg) (t:=t_ab) ⟨nO,Mc,Md,trivial⟩ Tryz.f72 hE (by kernel_rfl)
def c_fm:Con:=⟨[.ro true [.list,kI],.ro false [kI]],[⟨true,[.val,.val],[.list,kI],false⟩]⟩
theorem FZ:Has Tryz.prog 121 c_fm rL:=fp (R:=[]) (tr:=false) (E:=[(163,0,FE),(171,1,Kz)]) (Φ:=Ji) (t:=t_fm) ⟨qV,Bh,trivial⟩ Tryz.f121 hE (by kernel_rfl)
def c_ed:Con:=⟨[.ro true kD,.ro false [kI]],[⟨true,[.val,.val,.val,(.arr 97 v4)],kD,false⟩]⟩
theorem Me:Has Tryz.prog 76 c_ed yw:=fp (R:=[]) (tr:=false) (E:=[(111,0,D1),(121,1,c_fm)]) (Φ:=Jj) (t:=t_ed) ⟨nP,FZ,trivial⟩ Tryz.f76 hE (by kernel_rfl)
def c_ci:Con:=⟨[.ro true kD,.rptr [kI,kI,kI,.list]],[⟨true,[.val,.val,.val,(.arr 97 v4)],kD,false⟩]⟩
theorem Mf:Has Tryz.prog 75 c_ci yx:=fp (R:=[]) (tr:=false) (E:=[(76,0,c_ed)]) (Φ:=Jk) (t:=t_ci) ⟨Me,trivial⟩ Tryz.f75 hE (by kernel_rfl)
def c_cs:Con:=⟨[.ro true kH,.ro false [kI]],[⟨true,v5,kH,false⟩]⟩
theorem Mg:Has Tryz.prog 78 c_cs yy:=fp (R:=[]) (tr:=false) (E:=[(119,0,FV),(121,1,c_fm)]) (Φ:=Jl) (t:=t_cs) ⟨qZ,FZ,trivial⟩ Tryz.f78 hE (by kernel_rfl)
def c_ca:Con:=⟨[.ro true kH,.rptr [kI,kI,kI,.list]],[⟨true,v5,kH,false⟩]⟩
theorem Mh:Has Tryz.prog 77 c_ca yz:=fp (R:=[]) (tr:=false) (E:=[(78,0,c_cs)]) (Φ:=Jm) (t:=t_ca) ⟨Mg,trivial⟩ Tryz.f77 hE (by kernel_rfl)
def c_aa:Con:=⟨[.ptr [.val,.val,.val,(.arr 97 v4),(.arr 68 v5),(.arr 97 v4)] kW,.ro false [kI],.fn 75 [[kI,kI,kI,.list]],.fn 77 [[kI,kI,kI,.list]]],[]⟩
theorem Mi:Has Tryz.prog 72 c_aa yA:=fp (R:=[]) (tr:=false) (E:=[(61,0,D0),(75,1,c_ci),(77,2,c_ca)]) (Φ:=Jn) (t:=t_aa) ⟨nO,Mf,Mh,trivial⟩ Tryz.f72 hE (by kernel_rfl)
def c_dj:Con:=⟨[.ro true kD],[⟨true,[.val,.val,.val,(.arr 97 v4)],kD,false⟩]⟩
theorem Mj:Has Tryz.prog 79 c_dj yB:=fp (R:=[]) (tr:=false) (E:=[(111,0,D1),(112,1,FO)]) (Φ:=Jp) (t:=t_dj) ⟨nP,qY,trivial⟩ Tryz.f79 hE (by kernel_rfl)
def c_cz:Con:=⟨[.ro true kH],[⟨true,v5,kH,false⟩]⟩
theorem Mk:Has Tryz.prog 80 c_cz yC:=fp (R:=[]) (tr:=false) (E:=[(119,0,FV),(120,1,HB)]) (Φ:=Jq) (t:=t_cz) ⟨qZ,vG,trivial⟩ Tryz.f80 hE (by kernel_rfl)
def c_ad:Con:=⟨[.ptr [.val,.val,.val,(.arr 97 v4),(.arr 68 v5),(.arr 97 v4)] kW,.ro false [kI],.fn 79 [],.fn 80 []],[]⟩
theorem F0:Has Tryz.prog 72 c_ad rM:=fp (R:=[]) (tr:=false) (E:=[(61,0,D0),(79,1,c_dj),(80,2,c_cz)]) (Φ:=Jr) (t:=t_ad) ⟨nO,Mj,Mk,trivial⟩ Tryz.f72 hE (by kernel_rfl)
def c_df:Con:=⟨[.ptr [.val,.val,.val,(.arr 97 v4),(.arr 68 v5),(.arr 97 v4)] kW,.ro true [kI,kI,kI,.list]],[]⟩
def h_df:How:=⟨aB [],
 aB [(17,⟨[.bool],[(65,(.bool (.v 0)))],[],[],0⟩)],
 aB []⟩
theorem Ml:Has Tryz.prog 40 c_df nw:=fp (R:=[]) (tr:=false) (E:=[(67,0,c_ct),(68,1,c_dz),(69,2,KC),(62,3,lV),(70,4,c_bs),(71,5,c_cp),(72,6,c_ab),(72,7,c_aa),(72,8,c_ad)]) (Φ:=Jt) (t:=t_df) ⟨LK,LM,Bl,dN,FS,Mb,FY,Mi,F0,trivial⟩ Tryz.f40 h_df (by kernel_rfl)
def c_da:Con:=⟨[.ro true kJ],[⟨false,[.val],[.bool],false⟩]⟩
theorem Mm:Has Tryz.prog 132 c_da yD:=fp (R:=[]) (tr:=false) (E:=[(133,0,FK)]) (Φ:=Ju) (t:=t_da) ⟨qW,trivial⟩ Tryz.f132 hE (by kernel_rfl)
def c_ag:Con:=⟨[.ro false [.list],.fn 132 []],[⟨false,[.val],[kI],false⟩]⟩
def h_ag:How:=⟨aB [(0,⟨[kI],[(4,(.int .i64 (.n 0))),(8,(sI 0))],[],[],0⟩)],
 aB [],
 aB []⟩
theorem Mn:Has Tryz.prog 180 c_ag yE:=fp (R:=[]) (tr:=false) (E:=[(132,0,c_da)]) (Φ:=Jv) (t:=t_ag) ⟨Mm,trivial⟩ Tryz.f180 h_ag (by kernel_rfl)
def c_ac:Con:=⟨[.ro false [.list],.fn 132 []],[⟨false,[.val],[.bool],false⟩]⟩
theorem Mo:Has Tryz.prog 131 c_ac yF:=fp (R:=[]) (tr:=false) (E:=[(180,0,c_ag)]) (Φ:=Jw) (t:=t_ac) ⟨Mn,trivial⟩ Tryz.f131 hE (by kernel_rfl)
def c_el:Con:=⟨[.ro true kW],[⟨false,[.val],[.bool],false⟩]⟩
def h_el:How:=⟨aB [(0,⟨[kI],[(2,(.bool (.b false))),(24,(sI 0))],[],[],0⟩)],
 aB [],
 aB []⟩
theorem F1:Has Tryz.prog 83 c_el rN:=fp (R:=[]) (tr:=false) (E:=[(111,0,D1),(119,1,FV),(131,2,c_ac)]) (Φ:=Jx) (t:=t_el) ⟨nP,qZ,Mo,trivial⟩ Tryz.f83 h_el (by kernel_rfl)
def c_be:Con:=⟨[.ro true kW],[⟨true,[.val,.val,.val,(.arr 97 v4),(.arr 68 v5),(.arr 97 v4)],kW,false⟩]⟩
def h_be:How:=⟨aB [(0,⟨[kI,.list],[(16,(sI 0))],[(2,.cells [(.bool (.v 1006)),(.view true (.v 1007)),(sI 1008),(.sl 3),(.sl 1000),(.sl 4)]),(1000,.arr 68 v5 (.v 1))],[],1⟩)],
 aB [(2,⟨[.bool,.list,kI,.list,.list],[(3,(.ptr 1000 0))],[(1000,.cells [(.bool (.v 0)),(.view true (.v 1)),(sI 2),(.sl 1001),.nil,(.sl 1002)]),(1001,.arr 97 v4 (.v 3)),(1002,.arr 97 v4 (.v 4))],[],3⟩)],
 aB []⟩
theorem Mp:Has Tryz.prog 84 c_be yG:=fp (R:=[]) (tr:=false) (E:=[(112,0,FO),(134,1,c_au),(120,2,HB)]) (Φ:=Jy) (t:=t_be) ⟨qY,FN,vG,trivial⟩ Tryz.f84 h_be (by kernel_rfl)
theorem Mq:Has Tryz.prog 181 (gA 97) pS:=Fg (ρ:=⟨fun _=>181,fun t=>match t with|22=>40|25=>97|3=>3|4=>4|9=>9|20=>20|_=>0,fun x=>x⟩) ⟨qe,⟨Tryz.f181.name,by kernel_rfl,by kernel_rfl⟩,by kernel_rfl,by kernel_rfl,by kernel_rfl,by kernel_rfl⟩ rfl
def c_av:Con:=gA 97
def c_aq:Con:=⟨[.ro false [.list]],[⟨false,[(.arr 97 v4)],[.list],false⟩]⟩
def h_aq:How:=⟨aB [(2,⟨[kI,.list],[(6,(.sl 1000)),(27,(sI 0))],[(1000,.arr 97 v4 (.v 1))],[0],1⟩),(0,⟨[kI,kI],[(3,(sI 0)),(11,(sI 1))],[],[],0⟩)],
 aB [],
 aB []⟩
theorem Mr:Has Tryz.prog 135 c_aq yH:=fp (R:=[]) (tr:=false) (E:=[(181,0,c_av)]) (Φ:=Jz) (t:=t_aq) ⟨Mq,trivial⟩ Tryz.f135 h_aq (by kernel_rfl)
def c_ay:Con:=⟨[.ptr [.val,.val,.val,(.arr 97 v4),(.arr 68 v5),.val] kW,.ro true kJ],[⟨true,v4,kJ,false⟩,⟨false,[.val],[.bool],false⟩]⟩
theorem Ms:Has Tryz.prog 117 c_ay yI:=fp (R:=[]) (tr:=false) (E:=[(164,0,FL),(136,1,KD),(170,2,c_cl)]) (Φ:=JA) (t:=t_ay) ⟨qX,Bm,FW,trivial⟩ Tryz.f117 hE (by kernel_rfl)
def c_cb:Con:=⟨[.ptr [.val,.val,.val,(.arr 97 v4),(.arr 68 v5),(.arr 97 v4)] kW],[]⟩
def h_cb:How:=⟨aB [(4,⟨[kI,.bool,.list,kI,.list,.list,.list],[(49,(sI 0))],[(0,.cells [(.bool (.v 1)),(.view true (.v 2)),(sI 3),(.sl 1000),(.sl 1001),(.sl 1002)]),(1000,.arr 97 v4 (.v 4)),(1001,.arr 68 v5 (.v 5)),(1002,.arr 97 v4 (.v 6))],[9,10],3⟩),(2,⟨[kI,.bool,.list,kI,.list,.list,.list],[(29,(sI 0))],[(0,.cells [(.bool (.v 1)),(.view true (.v 2)),(sI 3),(.sl 1000),(.sl 1001),(.view true (.v 4))]),(1000,.arr 97 v4 (.v 5)),(1001,.arr 68 v5 (.v 6))],[4,5],2⟩),(0,⟨[kI,.bool,.list,kI,.list,.list,.list],[(9,(sI 0))],[(0,.cells [(.bool (.v 1)),(.view true (.v 2)),(sI 3),(.sl 1000),(.sl 1001),(.sl 1002)]),(1000,.arr 97 v4 (.v 4)),(1001,.arr 68 v5 (.v 5)),(1002,.arr 97 v4 (.v 6))],[1,2,3],3⟩)],
 aB [],
 aB []⟩
theorem Mt:Has Tryz.prog 85 c_cb yJ:=fp (R:=[]) (tr:=false) (E:=[(72,0,c_ab),(72,1,c_ad),(69,2,KC),(135,3,c_aq),(117,4,c_ay),(136,5,KD)]) (Φ:=JB) (t:=t_cb) ⟨FY,F0,Bl,Mr,Ms,Bm,trivial⟩ Tryz.f85 h_cb (by kernel_rfl)
def c_cr:Con:=⟨[.ro true kW,.ro false [kI]],[⟨true,[.val,.val,.val,(.arr 97 v4),(.arr 68 v5),(.arr 97 v4)],kW,false⟩]⟩
def h_cr:How:=⟨aB [(0,⟨[kI,.bool,.list,kI,.list,.list,.list],[(18,(sI 0))],[(5,.cells [(.bool (.v 1)),(.view true (.v 2)),(sI 3),(.sl 1000),(.sl 1001),(.sl 1002)]),(1000,.arr 97 v4 (.v 4)),(1001,.arr 68 v5 (.v 5)),(1002,.arr 97 v4 (.v 6))],[2,3,4],3⟩)],
 aB [],
 aB []⟩
theorem Mu:Has Tryz.prog 42 c_cr uR:=fp (R:=[]) (tr:=false) (E:=[(83,0,c_el),(62,1,lV),(84,2,c_be),(85,3,c_cb)]) (Φ:=JC) (t:=t_cr) ⟨F1,dN,Mp,Mt,trivial⟩ Tryz.f42 h_cr (by kernel_rfl)
def KF:Con:=mb
theorem Bo:Has Tryz.prog 45 KF jE:=Fd EK
def c_bz:Con:=⟨[.ro true kW,.ro false [kI]],[⟨false,[.val],[.list],false⟩]⟩
def h_bz:How:=⟨aB [(0,⟨[kI,.list],[(5,(.sl 1000)),(19,(sI 0))],[(1000,.arr 88 [.val,.val] (.v 1))],[],1⟩)],
 aB [],
 aB []⟩
theorem Mv:Has Tryz.prog 46 c_bz yK:=fp (R:=[]) (tr:=false) (E:=[(83,0,c_el),(90,1,HA),(47,2,HC)]) (Φ:=JD) (t:=t_bz) ⟨F1,vF,vH,trivial⟩ Tryz.f46 h_bz (by kernel_rfl)
def c_fw:Con:=⟨[.ro false [.str],.ro false [.list]],[⟨false,[.val],[.str],false⟩]⟩
def h_fw:How:=⟨aB [(0,⟨[kI,.str],[(12,(sI 0))],[(0,.bld 50 5 (.v 1))],[],0⟩)],
 aB [],
 aB []⟩
theorem F2:Has Tryz.prog 49 c_fw jp:=fp (R:=[]) (tr:=false) (E:=[(45,0,KF)]) (Φ:=JE) (t:=t_fw) ⟨Bo,trivial⟩ Tryz.f49 h_fw (by kernel_rfl)
def c_dd:Con:=⟨[.ro true kW],[⟨false,[.val],[.str],false⟩]⟩
def h_dd:How:=⟨aB [(4,⟨[kI,.list],[(10,(.sl 1000)),(57,(sI 0))],[(1000,.arr 3 [.val] (.v 1))],[],1⟩),(0,⟨[kI,.str],[(19,(sI 0))],[(3,.bld 50 5 (.v 1))],[],0⟩),(2,⟨[kI,.str],[(40,(sI 0))],[(3,.bld 50 5 (.v 1))],[],0⟩)],
 aB [(8,⟨[.str],[],[(3,.bld 50 5 (.v 0))],[],0⟩)],
 aB []⟩
theorem F3:Has Tryz.prog 29 c_dd rO:=fp (R:=[]) (tr:=false) (E:=[(44,0,D2),(45,1,KF),(46,2,c_bz),(47,3,HC),(48,4,KE),(49,5,c_fw)]) (Φ:=JF) (t:=t_dd) ⟨nQ,Bo,Mv,vH,Bn,F2,trivial⟩ Tryz.f29 h_dd (by kernel_rfl)
def c_cv:Con:=⟨[],[⟨false,[.val],[.list],false⟩]⟩
theorem Mw:Has Tryz.prog 137 c_cv ou:=fp (R:=[]) (tr:=false) (E:=[]) (Φ:=ph []) (t:=t_cv) trivial Tryz.f137 hE (by kernel_rfl)
def c_dk:Con:=⟨[.ro true kJ],[⟨false,[.val],[.str],false⟩]⟩
theorem Mx:Has Tryz.prog 86 c_dk yL:=fp (R:=[]) (tr:=false) (E:=[(133,0,FK),(137,1,c_cv),(49,2,c_fw)]) (Φ:=JG) (t:=t_dk) ⟨qW,Mw,F2,trivial⟩ Tryz.f86 hE (by kernel_rfl)
def c_cc:Con:=⟨[.ro true kW],[⟨false,[.val],[.str],false⟩]⟩
def h_cc:How:=⟨aB [(0,⟨[kI,.str],[(12,(sI 0))],[(1,.bld 50 5 (.v 1))],[],0⟩)],
 aB [],
 aB []⟩
theorem My:Has Tryz.prog 43 c_cc yM:=fp (R:=[]) (tr:=false) (E:=[(69,0,KC),(86,1,c_dk),(45,2,KF)]) (Φ:=JH) (t:=t_cc) ⟨Bl,Mx,Bo,trivial⟩ Tryz.f43 h_cc (by kernel_rfl)
def c_by:Con:=⟨[.ptr [.val,.val,.val,(.arr 97 v4),(.arr 68 v5),(.arr 97 v4)] kW,.ro false [.list]],[⟨false,[.val],[.str],false⟩]⟩
theorem Mz:Has Tryz.prog 27 c_by uW:=fp (R:=[]) (tr:=false) (E:=[(41,0,c_fy),(40,1,c_df),(42,2,c_cr),(29,3,c_dd),(43,4,c_cc)]) (Φ:=JI) (t:=t_by) ⟨Lt,Ml,Mu,F3,My,trivial⟩ Tryz.f27 hE (by kernel_rfl)
def sX:Con:=⟨[.ro false [.list],.ro false [.str]],[⟨false,[.val],[.str],false⟩]⟩
def h_dw:How:=⟨aB [(1,⟨[kI,.str,.bool,.list,kI,.list,.list,.list],[(31,(sI 0))],[(4,.bld 50 5 (.v 1)),(3,.cells [(.bool (.v 2)),(.view true (.v 3)),(sI 4),(.sl 1000),(.sl 1001),(.sl 1002)]),(1000,.arr 97 v4 (.v 5)),(1001,.arr 68 v5 (.v 6)),(1002,.arr 97 v4 (.v 7))],[0,1,2],3⟩)],
 aB [],
 aB []⟩
theorem gu:Has Tryz.prog 15 sX bD:=fp (R:=[]) (tr:=false) (E:=[(24,0,c_dl),(25,1,c_ds),(27,2,c_by),(29,3,c_dd)]) (Φ:=JJ) (t:=t_dw) ⟨Lr,Ls,Mz,F3,trivial⟩ Tryz.f15 h_dw (by kernel_rfl)
def c_ew:Con:=⟨[],[⟨true,[.val,(.arr 138 v3),.val,(.arr 97 v4)],kD,false⟩]⟩
theorem MA:Has Tryz.prog 50 c_ew yN:=fp (R:=aV) (tr:=false) (E:=[]) (Φ:=ph []) (t:=t_ew) trivial Tryz.f50 hE (by kernel_rfl)
def oc:Con:=⟨[.ro false [kI],.ro false [kI],.ro false [kI]],[⟨false,[.val],[.bool],false⟩]⟩
theorem eJ:Has Tryz.prog 93 oc b8:=fp (R:=aV) (tr:=false) (E:=[]) (Φ:=ph []) (t:=t_gw) trivial Tryz.f93 hE (by kernel_rfl)
def c_dt:Con:=⟨[.ro false [kI]],[⟨true,[.val,(.arr 88 [.val,.val])],[kI,.list],false⟩,⟨false,[.val],[.bool],false⟩]⟩
theorem F4:Has Tryz.prog 92 c_dt rP:=fp (R:=aV) (tr:=false) (E:=[(93,0,oc)]) (Φ:=JK) (t:=t_dt) ⟨eJ,trivial⟩ Tryz.f92 hE (by kernel_rfl)
def c_do:Con:=⟨[.ro false [kI],.ro false [kI]],[⟨true,[.val,.val,.val,(.arr 138 v3),.val],kH,false⟩,⟨false,[.val],[.bool],false⟩]⟩
theorem MB:Has Tryz.prog 51 c_do yO:=fp (R:=aV) (tr:=false) (E:=[(92,0,c_dt),(93,1,oc)]) (Φ:=JL) (t:=t_do) ⟨F4,eJ,trivial⟩ Tryz.f51 hE (by kernel_rfl)
def c_ea:Con:=⟨[.ro false [.list]],[⟨true,[.val,(.arr 138 v3),.val,(.arr 97 v4),(.arr 68 [.val,.val,.val,(.arr 138 v3),.val]),(.arr 97 v4)],kW,false⟩,⟨false,[.val],[.bool],false⟩]⟩
def h_ea:How:=⟨aB [(0,⟨[kI,.list],[(3,(.bool (.b false))),(5,(sI 0))],[(4,.cells [(.bool (.v 1001)),(.sl 1),(sI 1003),(.sl 2),(.sl 1000),(.sl 3)]),(1000,.arr 68 [.val,.val,.val,(.arr 138 v3),.val] (.v 1))],[],1⟩)],
 aB [],
 aB []⟩
theorem MC:Has Tryz.prog 30 c_ea yP:=fp (R:=aV) (tr:=false) (E:=[(50,0,c_ew),(51,1,c_do)]) (Φ:=JM) (t:=t_ea) ⟨MA,MB,trivial⟩ Tryz.f30 h_ea (by kernel_rfl)
def c_gs:Con:=⟨[.ro false [.str],.ro false [(.int .u8)]],[⟨false,[(.arr 9 [.val])],[.list],false⟩]⟩
def h_gs:How:=⟨aB [(0,⟨[kI,.list],[(5,(.sl 1000)),(6,(sI 0))],[(1000,.arr 9 [.val] (.v 1))],[0],1⟩)],
 aB [],
 aB []⟩
theorem F5:Has Tryz.prog 31 c_gs ny:=fp (R:=aV) (tr:=false) (E:=[]) (Φ:=ph []) (t:=t_gs) trivial Tryz.f31 h_gs (by kernel_rfl)
def c_gv:Con:=⟨[.ro false [.str]],[⟨false,[.val],[kI],false⟩]⟩
def h_gv:How:=⟨aB [(0,⟨[kI,kI],[(2,(.int .i64 (.n 0))),(3,(sI 0)),(4,(sI 1))],[],[],0⟩)],
 aB [],
 aB []⟩
theorem MD:Has Tryz.prog 94 c_gv yQ:=fp (R:=aV) (tr:=false) (E:=[(93,0,oc)]) (Φ:=JN) (t:=t_gv) ⟨eJ,trivial⟩ Tryz.f94 h_gv (by kernel_rfl)
def c_gl:Con:=⟨[.ro false [.list],.ro false [kI]],[⟨false,[.val],[kI],false⟩]⟩
theorem ME:Has Tryz.prog 52 c_gl jq:=fp (R:=aV) (tr:=false) (E:=[(94,0,c_gv)]) (Φ:=JO) (t:=t_gl) ⟨MD,trivial⟩ Tryz.f52 hE (by kernel_rfl)
def c_gi:Con:=⟨[.ro false [.list]],[⟨false,[.val],[.bool],false⟩]⟩
def h_gi:How:=⟨aB [(0,⟨[kI,kI],[(2,(.bool (.b false))),(3,(sI 0)),(4,(sI 1))],[],[],0⟩)],
 aB [],
 aB []⟩
theorem MF:Has Tryz.prog 194 c_gi yR:=fp (R:=aV) (tr:=false) (E:=[(93,0,oc)]) (Φ:=JP) (t:=t_gi) ⟨eJ,trivial⟩ Tryz.f194 h_gi (by kernel_rfl)
def HD:Con:=⟨[.ro true [kI,kI,.list]],[⟨false,[.val],[.bool],false⟩]⟩
theorem vJ:Has Tryz.prog 148 HD jW:=fp (R:=aV) (tr:=false) (E:=[(93,0,oc),(194,1,c_gi)]) (Φ:=JQ) (t:=t_gt) ⟨eJ,MF,trivial⟩ Tryz.f148 hE (by kernel_rfl)
def c_gf:Con:=⟨[.ro false [.list],.ro true [kI,kI,.list]],[⟨false,[.val],[.bool],false⟩]⟩
theorem F6:Has Tryz.prog 154 c_gf rQ:=fp (R:=aV) (tr:=false) (E:=[]) (Φ:=ph []) (t:=t_gf) trivial Tryz.f154 hE (by kernel_rfl)
def kU:Con:=⟨[.own false [(.arr 84 [.val,.val])] [.list] false,.ro true [kI,kI,.list]],[⟨false,[(.arr 84 [.val,.val])],[.list],false⟩]⟩
theorem ol:Has Tryz.prog 155 kU dy:=fp (R:=aV) (tr:=false) (E:=[]) (Φ:=ph []) (t:=kO) trivial Tryz.f155 hE (by kernel_rfl)
def c_gr:Con:=⟨[.ro false [.list]],[⟨false,[.val],[.list],false⟩,⟨false,[.val],[.bool],false⟩]⟩
def h_gr:How:=⟨aB [(0,⟨[kI,.list],[(2,.nil),(3,(.bool (.b false))),(4,(.sl 1000)),(5,(sI 0))],[(1000,.arr 84 [.val,.val] (.v 1))],[0],1⟩)],
 aB [],
 aB []⟩
theorem F7:Has Tryz.prog 104 c_gr nA:=fp (R:=aV) (tr:=false) (E:=[(148,0,HD),(154,1,c_gf),(155,2,kU)]) (Φ:=JR) (t:=t_gr) ⟨vJ,F6,ol,trivial⟩ Tryz.f104 h_gr (by kernel_rfl)
def c_gp:Con:=⟨[.ro true [.list,kI]],[⟨false,[.val],[.bool],false⟩]⟩
def h_gp:How:=⟨aB [(0,⟨[kI],[(2,(.bool (.b false))),(3,(sI 0))],[],[],0⟩)],
 aB [],
 aB []⟩
theorem F8:Has Tryz.prog 190 c_gp rR:=fp (R:=aV) (tr:=false) (E:=[(148,0,HD),(93,1,oc)]) (Φ:=JS) (t:=t_gp) ⟨vJ,eJ,trivial⟩ Tryz.f190 h_gp (by kernel_rfl)
def F9:Con:=⟨[.ro true kJ],[⟨false,[.val],[.bool],false⟩]⟩
theorem rb:Has Tryz.prog 99 F9 iM:=fp (R:=aV) (tr:=false) (E:=[(93,0,oc)]) (Φ:=JT) (t:=t_gd) ⟨eJ,trivial⟩ Tryz.f99 hE (by kernel_rfl)
def Ga:Con:=⟨[.ro false [.list],.ro true kJ],[⟨false,[.val],[.bool],false⟩]⟩
def h_fi:How:=⟨aB [(0,⟨[kI],[(4,(.bool (.b false))),(5,(sI 0))],[],[],0⟩)],
 aB [],
 aB []⟩
theorem rc:Has Tryz.prog 98 Ga iN:=fp (R:=aV) (tr:=false) (E:=[]) (Φ:=ph []) (t:=t_fi) trivial Tryz.f98 h_fi (by kernel_rfl)
def c_gh:Con:=⟨[.ro true kD],[⟨false,[.val],[.bool],false⟩]⟩
def h_gh:How:=⟨aB [(0,⟨[kI],[(2,(.bool (.b false))),(5,(sI 0))],[],[],0⟩)],
 aB [],
 aB []⟩
theorem MG:Has Tryz.prog 142 c_gh yS:=fp (R:=aV) (tr:=false) (E:=[(104,0,c_gr),(190,1,c_gp),(99,2,F9),(98,3,Ga)]) (Φ:=JU) (t:=t_gh) ⟨F7,F8,rb,rc,trivial⟩ Tryz.f142 h_gh (by kernel_rfl)
def c_gg:Con:=⟨[.ro true [kI,.list]],[⟨false,[.val],[kI],false⟩]⟩
def h_gg:How:=⟨aB [(0,⟨[kI,kI],[(3,(sI 0)),(4,(sI 1))],[],[],0⟩)],
 aB [],
 aB []⟩
theorem Gb:Has Tryz.prog 59 c_gg rS:=fp (R:=aV) (tr:=false) (E:=[]) (Φ:=ph []) (t:=t_gg) trivial Tryz.f59 h_gg (by kernel_rfl)
def c_go:Con:=⟨[.ro true [kI,.list],.ro true [kI,kI,.list]],[⟨false,[.val],[.bool],false⟩]⟩
theorem Gc:Has Tryz.prog 156 c_go rT:=fp (R:=aV) (tr:=false) (E:=[(59,0,c_gg)]) (Φ:=JV) (t:=t_go) ⟨Gb,trivial⟩ Tryz.f156 hE (by kernel_rfl)
def mV:Con:=⟨[.own true [.val,(.arr 88 [.val,.val])] [kI,.list] false,.ro true [kI,kI,.list]],[⟨true,[.val,(.arr 88 [.val,.val])],[kI,.list],false⟩]⟩
theorem re:Has Tryz.prog 157 mV dV:=fp (R:=aV) (tr:=false) (E:=[]) (Φ:=ph []) (t:=mK) trivial Tryz.f157 hE (by kernel_rfl)
def c_gx:Con:=⟨[.ro false [kI],.ro false [.list]],[⟨true,[.val,.val],[kI,.list],false⟩,⟨false,[.val],[.bool],false⟩]⟩
def h_gx:How:=⟨aB [(0,⟨[kI,kI,.list],[(5,(.bool (.b false))),(8,(sI 0))],[(2,.cells [(sI 1),(.sl 1000)]),(1000,.arr 88 [.val,.val] (.v 2))],[1],1⟩)],
 aB [],
 aB []⟩
theorem Ge:Has Tryz.prog 106 c_gx nB:=fp (R:=aV) (tr:=false) (E:=[(92,0,c_dt),(148,1,HD),(156,2,c_go),(157,3,mV)]) (Φ:=JW) (t:=t_gx) ⟨F4,vJ,Gc,re,trivial⟩ Tryz.f106 h_gx (by kernel_rfl)
def c_ek:Con:=⟨[.ro true kH],[⟨false,[.val],[.bool],false⟩]⟩
theorem MH:Has Tryz.prog 143 c_ek yT:=fp (R:=aV) (tr:=false) (E:=[(106,0,c_gx),(93,1,oc),(190,2,c_gp)]) (Φ:=JX) (t:=t_ek) ⟨Ge,eJ,F8,trivial⟩ Tryz.f143 hE (by kernel_rfl)
def c_et:Con:=⟨[.ro true kW],[⟨false,[.val],[.bool],false⟩]⟩
def h_et:How:=⟨aB [(2,⟨[kI],[(2,(.bool (.b false))),(4,(sI 0))],[],[],0⟩),(0,⟨[kI],[(2,(.bool (.b false))),(3,(sI 0))],[],[],0⟩)],
 aB [],
 aB []⟩
theorem Gf:Has Tryz.prog 95 c_et ov:=fp (R:=aV) (tr:=false) (E:=[(142,0,c_gh),(143,1,c_ek),(99,2,F9)]) (Φ:=JY) (t:=t_et) ⟨MG,MH,rb,trivial⟩ Tryz.f95 h_et (by kernel_rfl)
def c_de:Con:=⟨[.ro true [kI,kI,.list]],[⟨true,v3,[kI,kI,.list],false⟩]⟩
theorem MI:Has Tryz.prog 220 c_de yU:=fp (R:=aV) (tr:=false) (E:=[]) (Φ:=ph []) (t:=t_de) trivial Tryz.f220 hE (by kernel_rfl)
def c_fn:Con:=⟨[.ro true [.list,kI]],[⟨true,[(.arr 138 v3),.val],[.list,kI],false⟩]⟩
def h_fn:How:=⟨aB [(0,⟨[kI,.list],[(4,(sI 0))],[(3,.cells [(.sl 1000),(sI 1001)]),(1000,.arr 138 v3 (.v 1))],[2],1⟩)],
 aB [],
 aB []⟩
theorem Gg:Has Tryz.prog 191 c_fn rU:=fp (R:=aV) (tr:=false) (E:=[(220,0,c_de)]) (Φ:=JZ) (t:=t_fn) ⟨MI,trivial⟩ Tryz.f191 h_fn (by kernel_rfl)
def c_ff:Con:=⟨[.ro true kD],[⟨true,[.val,(.arr 138 v3),.val,(.arr 97 v4)],kD,false⟩]⟩
theorem MJ:Has Tryz.prog 144 c_ff yV:=fp (R:=aV) (tr:=false) (E:=[(191,0,c_fn)]) (Φ:=J0) (t:=t_ff) ⟨Gg,trivial⟩ Tryz.f144 hE (by kernel_rfl)
def c_fg:Con:=⟨[.ro true kH],[⟨true,[.val,.val,.val,(.arr 138 v3),.val],kH,false⟩]⟩
theorem MK:Has Tryz.prog 145 c_fg yW:=fp (R:=aV) (tr:=false) (E:=[(191,0,c_fn)]) (Φ:=J1) (t:=t_fg) ⟨Gg,trivial⟩ Tryz.f145 hE (by kernel_rfl)
def c_eu:Con:=⟨[.ro true kW],[⟨true,[.val,(.arr 138 v3),.val,(.arr 97 v4),(.arr 68 [.val,.val,.val,(.arr 138 v3),.val]),(.arr 97 v4)],kW,false⟩]⟩
def h_eu:How:=⟨aB [(0,⟨[kI,.list],[(4,(sI 0))],[(2,.cells [(.bool (.v 1006)),(.sl 3),(sI 1007),(.sl 4),(.sl 1000),(.sl 5)]),(1000,.arr 68 [.val,.val,.val,(.arr 138 v3),.val] (.v 1))],[],1⟩)],
 aB [(2,⟨[.bool,kI,.list,.list,.list],[(3,(.ptr 1000 0))],[(1000,.cells [(.bool (.v 0)),(.sl 1001),(sI 1),(.sl 1002),.nil,(.sl 1003)]),(1001,.arr 138 v3 (.v 2)),(1002,.arr 97 v4 (.v 3)),(1003,.arr 97 v4 (.v 4))],[],4⟩)],
 aB []⟩
theorem ML:Has Tryz.prog 96 c_eu yX:=fp (R:=aV) (tr:=false) (E:=[(144,0,c_ff),(145,1,c_fg)]) (Φ:=J2) (t:=t_eu) ⟨MJ,MK,trivial⟩ Tryz.f96 h_eu (by kernel_rfl)
def D3:Con:=⟨[.ro true kD,.ro false [.bool]],[⟨false,[.val],[.list],false⟩]⟩
theorem nR:Has Tryz.prog 57 D3 fx:=fp (R:=aV) (tr:=false) (E:=[(104,0,c_gr)]) (Φ:=J3) (t:=t_dn) ⟨F7,trivial⟩ Tryz.f57 hE (by kernel_rfl)
def KG:Con:=⟨[.ro true kD],[⟨false,[.val],[.list],false⟩]⟩
def h_dq:How:=⟨aB [(0,⟨[kI,.list],[(3,(.sl 1000)),(5,(sI 0))],[(1000,.arr 97 v4 (.v 1))],[1],1⟩),(2,⟨[kI,.list],[(3,(.sl 1000)),(6,(sI 0))],[(1000,.arr 97 v4 (.v 1))],[2],1⟩)],
 aB [],
 aB []⟩
theorem Bp:Has Tryz.prog 54 KG jX:=fp (R:=aV) (tr:=false) (E:=[(57,0,D3),(98,1,Ga)]) (Φ:=J4) (t:=t_dq) ⟨nR,rc,trivial⟩ Tryz.f54 h_dq (by kernel_rfl)
def c_fq:Con:=⟨[.ro true kD,.ro false [kI],.ro false [.list],.ro false [kI]],[⟨false,[.val],[.bool],false⟩]⟩
def h_fq:How:=⟨aB [(0,⟨[kI],[(8,(.bool (.b false))),(9,(sI 0))],[],[],0⟩)],
 aB [],
 aB []⟩
theorem MM:Has Tryz.prog 237 c_fq yY:=fp (R:=aV) (tr:=false) (E:=[(98,0,Ga)]) (Φ:=J5) (t:=t_fq) ⟨rc,trivial⟩ Tryz.f237 h_fq (by kernel_rfl)
def c_fu:Con:=⟨[.ro true kD,.ro false [kI],.ro false [.list],.ro false [kI]],[⟨false,[.val],[.bool],false⟩]⟩
def h_fu:How:=⟨aB [(0,⟨[kI],[(8,(.bool (.b false))),(9,(sI 0))],[],[],0⟩)],
 aB [],
 aB []⟩
theorem MN:Has Tryz.prog 238 c_fu nC:=fp (R:=aV) (tr:=false) (E:=[(98,0,Ga)]) (Φ:=J6) (t:=t_fu) ⟨rc,trivial⟩ Tryz.f238 h_fu (by kernel_rfl)
def c_gu:Con:=⟨[.own true [(.arr 138 v3),.val] [.list,kI] false,.own true v3 [kI,kI,.list] false],[⟨true,[(.arr 138 v3),.val],[.list,kI],false⟩,⟨false,[.val],[.bool],false⟩]⟩
theorem Gh:Has Tryz.prog 195 c_gu rV:=fp (R:=aV) (tr:=false) (E:=[]) (Φ:=ph []) (t:=t_gu) trivial Tryz.f195 hE (by kernel_rfl)
def c_dv:Con:=⟨[.own true [.val,(.arr 138 v3),.val,(.arr 97 v4)] kD false,.own true v3 [kI,kI,.list] false],[⟨true,[.val,(.arr 138 v3),.val,(.arr 97 v4)],kD,false⟩,⟨false,[.val],[.bool],false⟩]⟩
theorem Gi:Has Tryz.prog 149 c_dv ei:=fp (R:=aV) (tr:=false) (E:=[(57,0,D3),(154,1,c_gf),(195,2,c_gu)]) (Φ:=J7) (t:=t_dv) ⟨nR,F6,Gh,trivial⟩ Tryz.f149 hE (by kernel_rfl)
def c_co:Con:=⟨[.own true [.val,(.arr 138 v3),.val,(.arr 97 v4)] kD false,.ro false [kI]],[⟨true,[.val,(.arr 138 v3),.val,(.arr 97 v4)],kD,false⟩]⟩
def h_co:How:=⟨aB [],
 aB [(9,⟨[.bool],[(47,(.bool (.v 0)))],[],[],0⟩),(7,⟨[.bool],[(36,(.bool (.v 0)))],[],[],0⟩),(5,⟨[.bool],[(8,(.bool (.v 0)))],[],[],0⟩)],
 aB []⟩
theorem MO:Has Tryz.prog 221 c_co vf:=fp (R:=aV) (tr:=false) (E:=[(57,0,D3),(237,1,c_fq),(238,2,c_fu),(149,3,c_dv)]) (Φ:=J8) (t:=t_co) ⟨nR,MM,MN,Gi,trivial⟩ Tryz.f221 h_co (by kernel_rfl)
def c_es:Con:=⟨[.own true [.val,(.arr 138 v3),.val,(.arr 97 v4)] kD false,.ro true kJ],[⟨true,[.val,(.arr 138 v3),.val,(.arr 97 v4)],kD,false⟩]⟩
theorem MP:Has Tryz.prog 192 c_es yZ:=fp (R:=aV) (tr:=false) (E:=[(99,0,F9),(57,1,D3),(98,2,Ga),(221,3,c_co)]) (Φ:=J9) (t:=t_es) ⟨rb,nR,rc,MO,trivial⟩ Tryz.f192 hE (by kernel_rfl)
def KH:Con:=⟨[.ro true kH,.ro false [.bool]],[⟨true,[.val,.val],[kI,.list],false⟩]⟩
theorem Bq:Has Tryz.prog 60 KH jY:=fp (R:=aV) (tr:=false) (E:=[(106,0,c_gx)]) (Φ:=Ka) (t:=t_eb) ⟨Ge,trivial⟩ Tryz.f60 hE (by kernel_rfl)
def c_fp:Con:=⟨[.ro true kJ],[⟨true,v3,[kI,kI,.list],false⟩]⟩
theorem MQ:Has Tryz.prog 222 c_fp y0:=fp (R:=aV) (tr:=false) (E:=[]) (Φ:=ph []) (t:=t_fp) trivial Tryz.f222 hE (by kernel_rfl)
def c_cn:Con:=⟨[.ro true kH,.ro true kJ,.ro false [kI]],[⟨true,v4,kJ,false⟩,⟨false,[.val],[.bool],false⟩]⟩
def h_cn:How:=⟨aB [],
 aB [(6,⟨[.bool],[(28,(.bool (.v 0)))],[],[],0⟩),(4,⟨[.bool],[(15,(.bool (.v 0)))],[],[],0⟩)],
 aB []⟩
theorem MS:Has Tryz.prog 223 c_cn vg:=fp (R:=aV) (tr:=false) (E:=[]) (Φ:=ph []) (t:=t_cn) trivial Tryz.f223 h_cn (by kernel_rfl)
def c_fj:Con:=⟨[.own true [.val,.val,.val,(.arr 138 v3),.val] kH false,.ro true kJ],[⟨true,[.val,.val,.val,(.arr 138 v3),.val],kH,false⟩,⟨true,v4,kJ,false⟩,⟨false,[.val],[.bool],false⟩]⟩
theorem MT:Has Tryz.prog 193 c_fj y1:=fp (R:=aV) (tr:=false) (E:=[(99,0,F9),(60,1,KH),(222,2,c_fp),(156,3,c_go),(195,4,c_gu),(223,5,c_cn)]) (Φ:=Kb) (t:=t_fj) ⟨rb,Bq,MQ,Gc,Gh,MS,trivial⟩ Tryz.f193 hE (by kernel_rfl)
def c_en:Con:=⟨[.own true [.val,(.arr 138 v3),.val,(.arr 97 v4),(.arr 68 [.val,.val,.val,(.arr 138 v3),.val]),(.arr 97 v4)] kW false,.ro true kJ],[⟨true,[.val,(.arr 138 v3),.val,(.arr 97 v4),(.arr 68 [.val,.val,.val,(.arr 138 v3),.val]),(.arr 97 v4)],kW,false⟩,⟨true,v4,kJ,false⟩,⟨false,[.val],[.bool],false⟩]⟩
theorem Gj:Has Tryz.prog 146 c_en ox:=fp (R:=aV) (tr:=false) (E:=[(192,0,c_es),(193,1,c_fj)]) (Φ:=Kc) (t:=t_en) ⟨MP,MT,trivial⟩ Tryz.f146 hE (by kernel_rfl)
def c_dy:Con:=⟨[.own true [.val,(.arr 138 v3),.val,(.arr 97 v4),(.arr 68 [.val,.val,.val,(.arr 138 v3),.val]),(.arr 97 v4)] kW false,.ro false [kI]],[⟨true,[.val,(.arr 138 v3),.val,(.arr 97 v4),(.arr 68 [.val,.val,.val,(.arr 138 v3),.val]),(.arr 97 v4)],kW,false⟩]⟩
def h_dy:How:=⟨aB [],
 aB [(3,⟨[kI],[],[(4,.cells [(.bool (.v 1000)),(.sl 0),(sI 0),(.sl 1),(.sl 2),(.sl 3)])],[],0⟩)],
 aB []⟩
theorem Gk:Has Tryz.prog 147 c_dy rW:=fp (R:=aV) (tr:=false) (E:=[(93,0,oc)]) (Φ:=Kd) (t:=t_dy) ⟨eJ,trivial⟩ Tryz.f147 h_dy (by kernel_rfl)
def c_ep:Con:=⟨[.own true [.val,(.arr 138 v3),.val,(.arr 97 v4),(.arr 68 [.val,.val,.val,(.arr 138 v3),.val]),(.arr 97 v4)] kW false],[⟨true,[.val,(.arr 138 v3),.val,(.arr 97 v4),(.arr 68 [.val,.val,.val,(.arr 138 v3),.val]),(.arr 97 v4)],kW,false⟩]⟩
def h_ep:How:=⟨aB [(4,⟨[kI,.bool,kI,.list,.list,.list,.list],[(12,(sI 0))],[(4,.cells [(.bool (.v 1)),(.sl 1000),(sI 2),(.sl 1001),(.sl 1002),(.sl 1003)]),(1000,.arr 138 v3 (.v 3)),(1001,.arr 97 v4 (.v 4)),(1002,.arr 68 [.val,.val,.val,(.arr 138 v3),.val] (.v 5)),(1003,.arr 97 v4 (.v 6))],[10,11,12,13],4⟩),(2,⟨[kI,.bool,kI,.list,.list,.list,.list],[(5,(sI 0))],[(4,.cells [(.bool (.v 1)),(.sl 1000),(sI 2),(.sl 1001),(.sl 1002),(.sl 1003)]),(1000,.arr 138 v3 (.v 3)),(1001,.arr 97 v4 (.v 4)),(1002,.arr 68 [.val,.val,.val,(.arr 138 v3),.val] (.v 5)),(1003,.arr 97 v4 (.v 6))],[9,2,0,1],4⟩),(0,⟨[kI,.list],[(3,(sI 0))],[(2,.arr 68 [.val,.val,.val,(.arr 138 v3),.val] (.v 1))],[],0⟩)],
 aB [],
 aB []⟩
theorem MU:Has Tryz.prog 97 c_ep y2:=fp (R:=aV) (tr:=false) (E:=[(54,0,KG),(146,1,c_en),(147,2,c_dy)]) (Φ:=Ke) (t:=t_ep) ⟨Bp,Gj,Gk,trivial⟩ Tryz.f97 h_ep (by kernel_rfl)
def c_ck:Con:=⟨[.ro true kW,.ro false [kI]],[⟨true,[.val,(.arr 138 v3),.val,(.arr 97 v4),(.arr 68 [.val,.val,.val,(.arr 138 v3),.val]),(.arr 97 v4)],kW,false⟩]⟩
def h_ck:How:=⟨aB [(0,⟨[kI,.bool,kI,.list,.list,.list,.list],[(6,(sI 0))],[(6,.cells [(.bool (.v 1)),(.sl 1000),(sI 2),(.sl 1001),(.sl 1002),(.sl 1003)]),(1000,.arr 138 v3 (.v 3)),(1001,.arr 97 v4 (.v 4)),(1002,.arr 68 [.val,.val,.val,(.arr 138 v3),.val] (.v 5)),(1003,.arr 97 v4 (.v 6))],[2,3,4,5],4⟩)],
 aB [],
 aB []⟩
theorem MV:Has Tryz.prog 53 c_ck vj:=fp (R:=aV) (tr:=false) (E:=[(95,0,c_et),(93,1,oc),(96,2,c_eu),(97,3,c_ep)]) (Φ:=Kf) (t:=t_ck) ⟨Gf,eJ,ML,MU,trivial⟩ Tryz.f53 h_ck (by kernel_rfl)
def c_bq:Con:=⟨[.ro true kW,.ro false [kI]],[⟨false,[.val],[.list],false⟩]⟩
def h_bq:How:=⟨aB [(0,⟨[kI,.list],[(5,(.sl 1000)),(6,(sI 0))],[(1000,.arr 88 [.val,.val] (.v 1))],[1],1⟩)],
 aB [],
 aB []⟩
theorem MW:Has Tryz.prog 105 c_bq y3:=fp (R:=aV) (tr:=false) (E:=[(95,0,c_et),(93,1,oc),(60,2,KH)]) (Φ:=Kg) (t:=t_bq) ⟨Gf,eJ,Bq,trivial⟩ Tryz.f105 h_bq (by kernel_rfl)
def c_fe:Con:=⟨[.ro true kW,.ro false [kI],.ro true [.list,kI]],[⟨false,[.val],[.str],false⟩]⟩
def h_fe:How:=⟨aB [(0,⟨[.str,kI],[(7,(.str (.v 0))),(9,(sI 1))],[],[],0⟩)],
 aB [(2,⟨[.str],[(7,(.str (.v 0)))],[],[],0⟩)],
 aB []⟩
theorem MX:Has Tryz.prog 58 c_fe y4:=fp (R:=aV) (tr:=false) (E:=[(34,0,BV),(105,1,c_bq)]) (Φ:=Kh) (t:=t_fe) ⟨qT,MW,trivial⟩ Tryz.f58 h_fe (by kernel_rfl)
def c_fs:Con:=⟨[.ro true kW],[⟨false,[.val],[.str],false⟩]⟩
def h_fs:How:=⟨aB [(2,⟨[.str,kI],[(3,(.str (.v 0))),(6,(sI 1))],[],[],0⟩),(0,⟨[.str,kI],[(3,(.str (.v 0))),(5,(sI 1))],[],[],0⟩)],
 aB [],
 aB []⟩
theorem Gl:Has Tryz.prog 33 c_fs rX:=fp (R:=aV) (tr:=false) (E:=[(57,0,D3),(58,1,c_fe),(60,2,KH),(59,3,c_gg),(34,4,BV)]) (Φ:=Ki) (t:=t_fs) ⟨nR,MX,Bq,Gb,qT,trivial⟩ Tryz.f33 h_fs (by kernel_rfl)
def c_fl:Con:=⟨[],[⟨false,[.val],[.list],false⟩]⟩
theorem MY:Has Tryz.prog 100 c_fl y5:=fp (R:=aV) (tr:=false) (E:=[]) (Φ:=ph []) (t:=t_fl) trivial Tryz.f100 hE (by kernel_rfl)
def c_du:Con:=⟨[.ro true kJ],[⟨false,[.val],[.str],false⟩]⟩
theorem MZ:Has Tryz.prog 55 c_du y6:=fp (R:=aV) (tr:=false) (E:=[(99,0,F9),(100,1,c_fl),(34,2,BV)]) (Φ:=Kj) (t:=t_du) ⟨rb,MY,qT,trivial⟩ Tryz.f55 hE (by kernel_rfl)
def c_ge:Con:=⟨[.own true [.val,(.arr 138 v3),.val,(.arr 97 v4),(.arr 68 [.val,.val,.val,(.arr 138 v3),.val]),(.arr 97 v4)] kW false,.ro true kJ],[⟨true,[.val,(.arr 138 v3),.val,(.arr 97 v4),(.arr 68 [.val,.val,.val,(.arr 138 v3),.val]),(.arr 97 v4)],kW,false⟩]⟩
theorem Gm:Has Tryz.prog 150 c_ge oy:=fp (R:=aV) (tr:=false) (E:=[]) (Φ:=ph []) (t:=t_ge) trivial Tryz.f150 hE (by kernel_rfl)
def c_fa:Con:=⟨[.own true [.val,(.arr 138 v3),.val,(.arr 97 v4),(.arr 68 [.val,.val,.val,(.arr 138 v3),.val]),(.arr 97 v4)] kW false,.ro true [kI,kI,kI,.list]],[⟨true,[.val,(.arr 138 v3),.val,(.arr 97 v4),(.arr 68 [.val,.val,.val,(.arr 138 v3),.val]),(.arr 97 v4)],kW,false⟩]⟩
theorem M5:Has Tryz.prog 101 c_fa y7:=fp (R:=aV) (tr:=false) (E:=[(57,0,D3),(148,1,HD),(149,2,c_dv),(93,3,oc),(54,4,KG),(150,5,c_ge)]) (Φ:=Kk) (t:=t_fa) ⟨nR,vJ,Gi,eJ,Bp,Gm,trivial⟩ Tryz.f101 hE (by kernel_rfl)
def c_fd:Con:=⟨[.own true [.val,(.arr 138 v3),.val,(.arr 97 v4),(.arr 68 [.val,.val,.val,(.arr 138 v3),.val]),(.arr 97 v4)] kW false,.ro false [kI]],[⟨true,[.val,(.arr 138 v3),.val,(.arr 97 v4),(.arr 68 [.val,.val,.val,(.arr 138 v3),.val]),(.arr 97 v4)],kW,false⟩]⟩
theorem M6:Has Tryz.prog 151 c_fd vn:=fp (R:=aV) (tr:=false) (E:=[]) (Φ:=ph []) (t:=t_fd) trivial Tryz.f151 hE (by kernel_rfl)
def c_ga:Con:=⟨[.own true [.val,(.arr 138 v3),.val,(.arr 97 v4),(.arr 68 [.val,.val,.val,(.arr 138 v3),.val]),(.arr 97 v4)] kW false,.ro true [kI,kI,kI,.list]],[⟨true,[.val,(.arr 138 v3),.val,(.arr 97 v4),(.arr 68 [.val,.val,.val,(.arr 138 v3),.val]),(.arr 97 v4)],kW,false⟩]⟩
theorem M7:Has Tryz.prog 102 c_ga rY:=fp (R:=aV) (tr:=false) (E:=[(93,0,oc),(151,1,c_fd),(150,2,c_ge),(146,3,c_en)]) (Φ:=Kl) (t:=t_ga) ⟨eJ,M6,Gm,Gj,trivial⟩ Tryz.f102 hE (by kernel_rfl)
def c_fx:Con:=⟨[.own true [(.arr 138 v3),.val] [.list,kI] false,.ro false [kI]],[⟨true,[(.arr 138 v3),.val],[.list,kI],false⟩]⟩
theorem Gn:Has Tryz.prog 153 c_fx rZ:=fp (R:=aV) (tr:=true) (E:=[]) (Φ:=ph []) (t:=t_fx) trivial Tryz.f153 hE (by kernel_rfl)
def c_ey:Con:=⟨[.own true [.val,(.arr 138 v3),.val,(.arr 97 v4)] kD false,.ro false [kI]],[⟨true,[.val,(.arr 138 v3),.val,(.arr 97 v4)],kD,false⟩]⟩
theorem M8:Has Tryz.prog 152 c_ey y8:=fp (R:=aV) (tr:=false) (E:=[(153,0,c_fx)]) (Φ:=Km) (t:=t_ey) ⟨Gn,trivial⟩ Tryz.f152 hE (by kernel_rfl)
def c_fh:Con:=⟨[.own true [.val,(.arr 138 v3),.val,(.arr 97 v4),(.arr 68 [.val,.val,.val,(.arr 138 v3),.val]),(.arr 97 v4)] kW false,.ro true [kI,kI,kI,.list]],[⟨true,[.val,(.arr 138 v3),.val,(.arr 97 v4),(.arr 68 [.val,.val,.val,(.arr 138 v3),.val]),(.arr 97 v4)],kW,false⟩]⟩
theorem M9:Has Tryz.prog 103 c_fh sa:=fp (R:=aV) (tr:=false) (E:=[(93,0,oc),(147,1,c_dy),(152,2,c_ey),(153,3,c_fx)]) (Φ:=Kn) (t:=t_fh) ⟨eJ,Gk,M8,Gn,trivial⟩ Tryz.f103 hE (by kernel_rfl)
def c_gn:Con:=⟨[.own true [.val,(.arr 138 v3),.val,(.arr 97 v4),(.arr 68 [.val,.val,.val,(.arr 138 v3),.val]),(.arr 97 v4)] kW false,.ro true [kI,kI,kI,.list]],[⟨true,[.val,(.arr 138 v3),.val,(.arr 97 v4),(.arr 68 [.val,.val,.val,(.arr 138 v3),.val]),(.arr 97 v4)],kW,false⟩]⟩
def h_gn:How:=⟨aB [],
 aB [(5,⟨[.bool],[(7,(.bool (.v 0)))],[],[],0⟩)],
 aB []⟩
theorem Na:Has Tryz.prog 56 c_gn io:=fp (R:=aV) (tr:=false) (E:=[(101,0,c_fa),(102,1,c_ga),(103,2,c_fh)]) (Φ:=Ko) (t:=t_gn) ⟨M5,M7,M9,trivial⟩ Tryz.f56 h_gn (by kernel_rfl)
def c_er:Con:=⟨[.own true [.val,(.arr 138 v3),.val,(.arr 97 v4),(.arr 68 [.val,.val,.val,(.arr 138 v3),.val]),(.arr 97 v4)] kW false,.ro false [.str]],[⟨true,[.val,(.arr 138 v3),.val,(.arr 97 v4),(.arr 68 [.val,.val,.val,(.arr 138 v3),.val]),(.arr 97 v4)],kW,false⟩,⟨false,[.val],[.str],false⟩]⟩
def h_er:How:=⟨aB [(1,⟨[.str,kI],[(8,(.str (.v 0))),(10,(sI 1))],[],[],0⟩)],
 aB [],
 aB []⟩
theorem Nb:Has Tryz.prog 32 c_er vo:=fp (R:=aV) (tr:=false) (E:=[(31,0,c_gs),(52,1,c_gl),(53,2,c_ck),(33,3,c_fs),(54,4,KG),(55,5,c_du),(34,6,BV),(56,7,c_gn)]) (Φ:=Kp) (t:=t_er) ⟨F5,ME,MV,Gl,Bp,MZ,qT,Na,trivial⟩ Tryz.f32 h_er (by kernel_rfl)
def sY:Con:=⟨[.ro false [.list],.ro false [.str]],[⟨false,[.val],[.str],false⟩]⟩
def h_dh:How:=⟨aB [(0,⟨[.str,kI,.bool,kI,.list,.list,.list,.list],[(7,(.str (.v 0))),(9,(sI 1))],[(4,.cells [(.bool (.v 2)),(.sl 1000),(sI 3),(.sl 1001),(.sl 1002),(.sl 1003)]),(1000,.arr 138 v3 (.v 4)),(1001,.arr 97 v4 (.v 5)),(1002,.arr 68 [.val,.val,.val,(.arr 138 v3),.val] (.v 6)),(1003,.arr 97 v4 (.v 7))],[0,1,2,3],4⟩)],
 aB [],
 aB []⟩
theorem gv:Has Tryz.prog 16 sY eY:=fp (R:=aV) (tr:=false) (E:=[(30,0,c_ea),(31,1,c_gs),(32,2,c_er),(33,3,c_fs)]) (Φ:=Kq) (t:=t_dh) ⟨MC,F5,Nb,Gl,trivial⟩ Tryz.f16 h_dh (by kernel_rfl)
def c_gb:Con:=⟨[.ro false [.list]],[⟨false,[.val],[.list],false⟩]⟩
def h_gb:How:=⟨aB [(0,⟨[kI,.list],[(4,(sI 0))],[(0,.arr 3 [.val] (.v 1))],[],0⟩)],
 aB [],
 aB []⟩
theorem Nc:Has Tryz.prog 17 c_gb y9:=fp (R:=[]) (tr:=false) (E:=[]) (Φ:=ph []) (t:=t_gb) trivial Tryz.f17 h_gb (by kernel_rfl)
def c_gj:Con:=⟨[.ro false [.list],.ro false [.list]],[⟨false,[.val],[.bool],false⟩]⟩
def h_gj:How:=⟨aB [(0,⟨[kI],[(4,(.bool (.b false))),(5,(sI 0))],[],[],0⟩)],
 aB [],
 aB []⟩
theorem Nd:Has Tryz.prog 18 c_gj za:=fp (R:=[]) (tr:=false) (E:=[]) (Φ:=ph []) (t:=t_gj) trivial Tryz.f18 h_gj (by kernel_rfl)
end Dx
